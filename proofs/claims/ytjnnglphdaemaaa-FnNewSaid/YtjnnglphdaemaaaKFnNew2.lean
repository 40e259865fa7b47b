-- Joined and shortened by a program of this session (wip/tools/shakecopy.py): the words of the print, texts of pp.sh and of mine.
import Derived.Test.YtjnnglphdaemaaaKFnNew1
import Derived.Test.YtjnnglphdaemaaaProg
import Derived.Below
import Derived.Deep.Draws
import Derived.Deep.AppendLies
import Derived.Maps.AppendAt
import Derived.OwnWalk
import Derived.Laws.BytesArg
import Derived.Laws.MakeOwn
import Derived.Laws.OwnMore
import Derived.Deep.OwnRows
import Derived.Tactics
import Derived.Lib.ConvBytes
import Derived.Laws.Slices
import Derived.WalkKit
import Derived.KernelRfl
import Derived.RowKit3
import Derived.Deep.LoopGhost
import Derived.Deep.QuietTactic
import Derived.BigQuiet
import Derived.WideLaws
import Derived.Deep.DeepCutAuto
import Derived.Deep.CutBlock
import Derived.Deep.RegionHeld3
import Derived.Laws.Rows
import Derived.Lib.AppendStr
import Derived.ArgAppend
import Derived.Laws.IdiomCopy
import Derived.OrdersHeld
import Derived.Laws.BitsLemmas
import Derived.RowKit
import Derived.RegionTactic
import Derived.IntWalk
import Derived.RangeFuncNested
import Derived.RangeFuncBound
import Derived.RangeFuncCalls
import Derived.RangeFuncLeaves
import Derived.Shelf.Abstract
import Derived.Shelf.RegionOpen
import Derived.OwnWalkIn
import Derived.TacticsInMore
import Derived.LoopNIn
import Derived.LoopIn
import Derived.WalkLawsBesides
import Derived.RegionIn
import Derived.Lib.Strings
import Derived.Lib.SliceRun
import Derived.Outline
section
-- Written by a program of this session (wip/tools/pp.sh) over the print of the kit.
namespace Go.Proofs.Ytjnnglphdaemaaa.Q
open Go.RowKit Go.Proofs.YtjnnglphdaemaaaW.PrintWords Go.Proofs.YtjnnglphdaemaaaW.PrintLast Go.Proofs.YtjnnglphdaemaaaW.PrintMore
attribute [local go_sem] max2_int min2_int max_two min_two max_three min_three max_four min_four   -- for this text's walks alone
set_option linter.unusedVariables false
set_option linter.unusedSimpArgs false
def errW : Option Int → Value
 | none => .nilIface
 | some c => .iface 0 (.int .i64 c)
theorem errW_none : errW none = .nilIface := rfl
theorem errW_some (c : Int) : errW (some c) = .iface 0 (.int .i64 c) := rfl
theorem info5 : (Try.prog.info? 5).map (fun i => (i.zero, i.size, i.bytes)) = some (some (.int .u8 0), 1, 1) := by kernel_rfl
theorem info9 : (Try.prog.info? 9).map (fun i => (i.zero, i.size, i.bytes)) = some (some (.string ⟨#[]⟩), 1, 16) := by kernel_rfl
def rd_L4 (xs : List (List ByteArray)) (i : Int) : (List ByteArray) := xs.getD i.toNat ([] : List ByteArray)
theorem at_L4 {w : World} {A : Option Addr} {n : Nat} {xs : List (List ByteArray)} (h : Kd.C (Kd.slice 9 Kd.string) w A n xs) (i : Int) (h0 : 0 ≤ i) (h1 : i < n) : ∃ ad A0 c0, A = some ad ∧ w.cell? (ad.add i.toNat) = some (.slice A0 (rd_L4 xs i).length c0) ∧ (rd_L4 xs i).length ≤ c0 ∧ Kd.string.C w A0 (rd_L4 xs i).length (rd_L4 xs i) := by
 obtain ⟨ad, c, e, _, hK, hc0⟩ := Kd.C_get h ([] : List ByteArray) i h0 h1
 have hc : ∀ j u, c[j]? = some u → w.cell? (ad.add (i.toNat * 1 + j)) = some u := hc0
 obtain ⟨A0, c0, rfl, l0, g0⟩ := hK
 exact ⟨ad, A0, c0, e, by have hq := hc 0 _ rfl; rwa [Nat.mul_one, Nat.add_zero] at hq, l0, g0⟩
structure S28 where
 f0 : Int
 f1 : ByteArray
def z28 : S28 := ⟨(0 : Int), (⟨#[]⟩ : ByteArray)⟩
def k28 : Kd S28 := Kd.iso (Kd.pair (Kd.int .i64) Kd.string) (fun x : S28 => (x.f0, x.f1))
theorem k28_open {w : World} {x : S28} {cs : List Value} (h : k28.K w x cs) : cs = [.int .i64 x.f0, .string x.f1] := by
 obtain ⟨_, _, rfl, rfl, rfl⟩ := h
 exact rfl
theorem k28_mkM (w : World) (base : Nat) (ok : Nat → Prop) (x : S28)  : k28.M w base ok x [.int .i64 x.f0, .string x.f1] := ⟨[.int .i64 x.f0], [.string x.f1], rfl, rfl, rfl⟩
def rd_T28 (xs : List S28) (i : Int) : S28 := xs.getD i.toNat z28
theorem at_T28 {w : World} {A : Option Addr} {n : Nat} {xs : List S28} (h : Kd.C k28 w A n xs) (i : Int) (h0 : 0 ≤ i) (h1 : i < n) : ∃ ad , A = some ad ∧ w.cell? (ad.add (i.toNat * 2)) = some (.int .i64 (rd_T28 xs i).f0) ∧ w.cell? ⟨(ad.add (i.toNat * 2)).block, (ad.add (i.toNat * 2)).off + 1, none⟩ = some (.string (rd_T28 xs i).f1) := by
 obtain ⟨ad, c, e, _, hK, hc0⟩ := Kd.C_get h z28 i h0 h1
 have hc : ∀ j u, c[j]? = some u → w.cell? (ad.add (i.toNat * 2 + j)) = some u := hc0
 obtain rfl := k28_open hK
 exact ⟨ad, e, hc 0 _ rfl, by rw [← add_field _ _ 1 (by omega)]; exact hc 1 _ rfl⟩
structure S31 where
 f0 : (List ByteArray)
 f1 : S28
structure S37 where
 f0 : S31
 f1 : (List Int)
 f2 : Int
structure S47 where
 f0 : Int
 f1 : ByteArray
structure S49 where
 f0 : (List ByteArray)
 f1 : S47
structure S71 where
 f0 : S49
 f1 : (List Int)
 f2 : Int
structure S78 where
 f0 : Int
 f1 : S71
 f2 : S47
end Go.Proofs.Ytjnnglphdaemaaa.Q
end

section
-- Written by a program of this session (wip/tools/pp.sh) over the print of the kit.
namespace Go.Proofs.Ytjnnglphdaemaaa.Q
open Go.RowKit Go.Proofs.YtjnnglphdaemaaaW.PrintWords Go.Proofs.YtjnnglphdaemaaaW.PrintLast Go.Proofs.YtjnnglphdaemaaaW.PrintMore
attribute [local go_sem] max2_int min2_int max_two min_two max_three min_three max_four min_four   -- for this text's walks alone
set_option linter.unusedVariables false
set_option linter.unusedSimpArgs false
def bits_RotateLeft32.f (a0 : Int) (a1 : Int) : Option (Int) := if 0 ≤ (Go.bits .and .u64 (IntKind.u64.wrap (a1)) 31) then (if 0 ≤ (IntKind.u64.wrap (32 - (Go.bits .and .u64 (IntKind.u64.wrap (a1)) 31))) then (some (Go.bits .or .u32 (shl .u32 a0 (Go.bits .and .u64 (IntKind.u64.wrap (a1)) 31)) (shr .u32 a0 (IntKind.u64.wrap (32 - (Go.bits .and .u64 (IntKind.u64.wrap (a1)) 31)))))) else (none)) else (none)
set_option maxHeartbeats 8000000 in
set_option maxRecDepth 100000 in
theorem bits_RotateLeft32.calls (a0 : Int) (a1 : Int) (r : Int) (w : World) (h : bits_RotateLeft32.f a0 a1 = some r) :
  Calls Try.prog 142 #[.int .u32 a0, .int .i64 a1] w fun e w' => e = .returned (.int .u32 r) ∧ Drawn0 w w' := by
 have H : (if 0 ≤ (Go.bits .and .u64 (IntKind.u64.wrap (a1)) 31) then (if 0 ≤ (IntKind.u64.wrap (32 - (Go.bits .and .u64 (IntKind.u64.wrap (a1)) 31))) then (some (Go.bits .or .u32 (shl .u32 a0 (Go.bits .and .u64 (IntKind.u64.wrap (a1)) 31)) (shr .u32 a0 (IntKind.u64.wrap (32 - (Go.bits .and .u64 (IntKind.u64.wrap (a1)) 31)))))) else (none)) else (none)) = some r := h
 clear h
 generalize hji3 : (Go.bits .and .u64 (IntKind.u64.wrap (a1)) 31) = ji3 at H
 replace H := ip_ H; obtain ⟨c4, H⟩ := H
 have c4b0 := eq_true c4
 have c4b1 := decide_eq_true c4
 clear c4
 generalize hji5 : (shl .u32 a0 (ji3)) = ji5 at H
 have hji5_ : (IntKind.u32.wrap (a0 * 2 ^ min (ji3).toNat 32)) = ji5 := hji5
 have hji5z : (ji3) ≤ 32 → (IntKind.u32.wrap (a0 * 2 ^ (ji3).toNat)) = ji5 := shl_small hji5
 generalize hji6 : (IntKind.u64.wrap (32 - (ji3))) = ji6 at H
 replace H := ip_ H; obtain ⟨c7, H⟩ := H
 have c7b0 := eq_true c7
 have c7b1 := decide_eq_true c7
 clear c7
 generalize hji8 : (shr .u32 a0 (ji6)) = ji8 at H
 have hji8_ : (a0 / 2 ^ min (ji6).toNat 32) = ji8 := hji8
 have hji8z : (ji6) ≤ 32 → (a0 / 2 ^ (ji6).toNat) = ji8 := shr_small hji8
 obtain rfl := Option.some.inj H
 go_enter Try.func142, Try.ntmps142
 go_wp2
 go_ret
 exact ⟨by first | rfl | (simp; done) | (simp only [← hji3, ← hji5, ← hji6, ← hji8] <;> (first | rfl | simp)) | (simp [*]; done), dw_⟩
end Go.Proofs.Ytjnnglphdaemaaa.Q
end

section
/- bits.RotateLeft32 at the ten counts that the digest uses: a turn to the right. -/
namespace Go.Proofs.Ytjnnglphdaemaaa.Q
open Go.RowKit Go.Proofs.YtjnnglphdaemaaaW.PrintWords Go.Proofs.YtjnnglphdaemaaaW.PrintLast Go.Proofs.YtjnnglphdaemaaaW.PrintMore

def rotr (x : Int) (n : Nat) : Int := Go.bits .or .u32 (shl .u32 x (32 - n)) (shr .u32 x n)
theorem rot_of (x k : Int) (n : Nat) (h1 : Go.bits .and .u64 (IntKind.u64.wrap k) 31 = 32 - (n : Int)) (h2 : IntKind.u64.wrap (32 - (32 - (n : Int))) = (n : Int)) (hn : n ≤ 32) : bits_RotateLeft32.f x k = some (rotr x n) := by
  unfold bits_RotateLeft32.f rotr
  rw [h1, h2, if_pos (by omega), if_pos (by omega)]
theorem rot2 (x : Int) : bits_RotateLeft32.f x (-2) = some (rotr x 2) := rot_of x _ 2 (by decide +kernel) (by decide +kernel) (by decide)
theorem rot6 (x : Int) : bits_RotateLeft32.f x (-6) = some (rotr x 6) := rot_of x _ 6 (by decide +kernel) (by decide +kernel) (by decide)
theorem rot7 (x : Int) : bits_RotateLeft32.f x (-7) = some (rotr x 7) := rot_of x _ 7 (by decide +kernel) (by decide +kernel) (by decide)
theorem rot11 (x : Int) : bits_RotateLeft32.f x (-11) = some (rotr x 11) := rot_of x _ 11 (by decide +kernel) (by decide +kernel) (by decide)
theorem rot13 (x : Int) : bits_RotateLeft32.f x (-13) = some (rotr x 13) := rot_of x _ 13 (by decide +kernel) (by decide +kernel) (by decide)
theorem rot17 (x : Int) : bits_RotateLeft32.f x (-17) = some (rotr x 17) := rot_of x _ 17 (by decide +kernel) (by decide +kernel) (by decide)
theorem rot18 (x : Int) : bits_RotateLeft32.f x (-18) = some (rotr x 18) := rot_of x _ 18 (by decide +kernel) (by decide +kernel) (by decide)
theorem rot19 (x : Int) : bits_RotateLeft32.f x (-19) = some (rotr x 19) := rot_of x _ 19 (by decide +kernel) (by decide +kernel) (by decide)
theorem rot22 (x : Int) : bits_RotateLeft32.f x (-22) = some (rotr x 22) := rot_of x _ 22 (by decide +kernel) (by decide +kernel) (by decide)
theorem rot25 (x : Int) : bits_RotateLeft32.f x (-25) = some (rotr x 25) := rot_of x _ 25 (by decide +kernel) (by decide +kernel) (by decide)
end Go.Proofs.Ytjnnglphdaemaaa.Q
end

section
/- impl.wordsOf: the 64 words of a block of 64 bytes, in a new array. -/
namespace Go.Proofs.Ytjnnglphdaemaaa.Q
open Go.RowKit Go.Proofs.YtjnnglphdaemaaaW.PrintWords Go.Proofs.YtjnnglphdaemaaaW.PrintLast Go.Proofs.YtjnnglphdaemaaaW.PrintMore
set_option linter.unusedVariables false
set_option linter.unusedSimpArgs false

def be32 (bs : List Int) (i : Nat) : Int := Go.bits .or .u32 (Go.bits .or .u32 (Go.bits .or .u32 (rd bs (4 * (i : Int)) % 4294967296 * 16777216 % 4294967296) (rd bs (4 * (i : Int) + 1) % 4294967296 * 65536 % 4294967296)) (rd bs (4 * (i : Int) + 2) % 4294967296 * 256 % 4294967296)) (rd bs (4 * (i : Int) + 3) % 4294967296)
def wMix (a16 a15 a7 a2 : Int) : Int := (a16 + Go.bits .xor .u32 (Go.bits .xor .u32 (rotr a15 7) (rotr a15 18)) (a15 / 8) + a7 + Go.bits .xor .u32 (Go.bits .xor .u32 (rotr a2 17) (rotr a2 19)) (a2 / 1024)) % 4294967296
def wAt (bs : List Int) : Nat → List Int
  | 0 => List.replicate 64 0
  | i + 1 => (wAt bs i).set i (if i < 16 then be32 bs i else wMix ((wAt bs i).getD (i - 16) 0) ((wAt bs i).getD (i - 15) 0) ((wAt bs i).getD (i - 7) 0) ((wAt bs i).getD (i - 2) 0))
theorem wAt_length (bs : List Int) (i : Nat) : (wAt bs i).length = 64 := by
  induction i with
  | zero => simp [wAt]
  | succ i ih => simp [wAt, ih]
def arrU (ys : List Int) : Array Value := (nums .u32 ys).toArray
theorem arrU_get {ys : List Int} {i : Nat} (h : i < ys.length) : (arrU ys)[i]? = some (.int .u32 (ys.getD i 0)) := by
  simp [arrU, nums, List.getElem?_eq_getElem h, List.getD_eq_getElem?_getD]
theorem arrU_set (ys : List Int) (i : Nat) (v : Int) : (arrU ys).setIfInBounds i (.int .u32 v) = arrU (ys.set i v) := by
  simp [arrU, nums, List.map_set]
theorem bytes_at {w : World} {A : Option Addr} {n : Nat} {bs : List Int} (h : Kd.C (Kd.int .u8) w A n bs) (h0 : 0 < n) : ∃ ad, A = some ad ∧ ad.block < w.heap.size ∧ ∀ i : Nat, i < n → w.cell? (ad.add i) = some (.int .u8 (rd bs i)) := by
  obtain ⟨ad, e, hcell⟩ := h.2.2 h0
  have hl := h.1
  have hby : ∀ i : Nat, i < n → w.cell? (ad.add i) = some (.int .u8 (rd bs i)) := by
    intro i hi
    obtain ⟨x, hx⟩ : ∃ x, bs[i]? = some x := ⟨bs[i], List.getElem?_eq_getElem (by omega)⟩
    obtain ⟨cs, _, hk, hcc⟩ := hcell i x hx
    have hk2 : cs = [.int .u8 x] := hk
    have := hcc 0 (.int .u8 x) (by rw [hk2]; rfl)
    rw [show i * (Kd.int .u8).sz + 0 = i from by simp [Kd.int, Kd.scalar]] at this
    rw [this]
    unfold rd
    simp [List.getD_eq_getElem?_getD, hx]
  have had := World.block_lt_of_cell? w _ (hby 0 h0)
  exact ⟨ad, e, by simpa [Addr.add] using had, hby⟩

set_option maxHeartbeats 4000000 in
set_option maxRecDepth 100000 in
theorem wordsOf_calls (A : Option Addr) (c : Nat) (bs : List Int) (w : World) (hr : Kd.C (Kd.int .u8) w A bs.length bs) (hl : bs.length = 64) :
    Calls Try.prog 141 #[.slice A bs.length c] w fun e w' => ∃ g, e = .returned (.pointer (some ⟨g, 0, none⟩)) ∧ w.heap.size ≤ g ∧ w'.heap[g]? = some (.cells (arrU (wAt bs 64)) 155 (0, 0)) ∧ Below w.heap.size w w' := by
  have HL := Aside0.mk hl
  obtain ⟨ad, rfl, hadl, hby⟩ := bytes_at hr (by omega)
  have HAD := Aside0.mk hadl
  have HBY := Aside0.mk hby
  clear hr hl hby hadl
  go_enter Try.func141, Try.ntmps141
  go_wp2
  go_loopw [10] (fun i W => ∃ k : Nat, k ≤ 16 ∧ i = .int .i64 k ∧ Aside0 (W.heap[w.heap.size]? = some (.cells (arrU (wAt bs k)) 155 (0, 0))) ∧ Aside0 (Below w.heap.size w W)) (fun i _ => 16 - (intOf i).toNat)
  case atStart =>
    refine ⟨0, by omega, rfl, ⟨?_⟩, ⟨(Below.refl _ _).alloc (Nat.le_refl _) _⟩⟩
    rw [blk_new]
    rfl
  case round =>
    obtain ⟨k, hk, rfl, HG, HB⟩ := hrel
    by_cases hlt : k < 16
    · have hb11 : decide ((k : Int) < 16) = true := decide_eq_true (by omega)
      have hblk : ∀ i : Nat, (ad.add i).block = ad.block := fun i => by unfold Addr.add; split <;> rfl
      have hL := HL.out
      have ee : ∀ i : Nat, i < 64 → wr.cell? (ad.add i) = some (.int .u8 (rd bs i)) := fun i hi => (HB.out.cell (by rw [hblk]; exact HAD.out)).trans (HBY.out i (by omega))
      have e0 := ee (4 * k) (by omega)
      have hpl : ∀ i : Nat, ad.add (i + 1) = ⟨ad.block, ad.off + (i + 1), none⟩ := fun i => by unfold Addr.add; rw [if_neg (by omega)]
      have e1' : wr.cell? ⟨ad.block, ad.off + (4 * k + 1), none⟩ = some (.int .u8 (rd bs (4 * (k : Int) + 1))) := by rw [← hpl]; exact ee (4 * k + 1) (by omega)
      have e2' : wr.cell? ⟨ad.block, ad.off + (4 * k + 1 + 1), none⟩ = some (.int .u8 (rd bs (4 * (k : Int) + 2))) := by rw [← hpl]; exact ee (4 * k + 2) (by omega)
      have e3' : wr.cell? ⟨ad.block, ad.off + (4 * k + 2 + 1), none⟩ = some (.int .u8 (rd bs (4 * (k : Int) + 3))) := by rw [← hpl]; exact ee (4 * k + 3) (by omega)
      have e2'' : wr.cell? ⟨ad.block, ad.off + (4 * k + 2), none⟩ = some (.int .u8 (rd bs (4 * (k : Int) + 2))) := e2'
      have e3'' : wr.cell? ⟨ad.block, ad.off + (4 * k + 3), none⟩ = some (.int .u8 (rd bs (4 * (k : Int) + 3))) := e3'
      clear ee hblk hpl
      have hcl : wr.cell? ⟨w.heap.size, k, none⟩ = some (.int .u32 ((wAt bs k).getD k 0)) := (blk_cell HG.out k).trans (arrU_get (by rw [wAt_length]; omega))
      obtain ⟨old, hold⟩ : ∃ old, old = (wAt bs k).getD k 0 := ⟨_, rfl⟩
      rw [← hold] at hcl
      clear hold
      have hfl := blk_frozen HG.out k
      have s0 : IntKind.i64.wrap (4 * (k : Int)) = 4 * (k : Int) := IntWalk.i64_in _ ⟨by omega, by omega⟩
      have s1 : IntKind.i64.wrap (4 * (k : Int) + 1) = 4 * (k : Int) + 1 := IntWalk.i64_in _ ⟨by omega, by omega⟩
      have s2 : IntKind.i64.wrap (4 * (k : Int) + 2) = 4 * (k : Int) + 2 := IntWalk.i64_in _ ⟨by omega, by omega⟩
      have s3 : IntKind.i64.wrap (4 * (k : Int) + 3) = 4 * (k : Int) + 3 := IntWalk.i64_in _ ⟨by omega, by omega⟩
      have p0 : 0 ≤ 4 * (k : Int) := by omega
      have p1 : 0 ≤ 4 * (k : Int) + 1 := by omega
      have p2 : 0 ≤ 4 * (k : Int) + 2 := by omega
      have p3 : 0 ≤ 4 * (k : Int) + 3 := by omega
      have l0 : 4 * (k : Int) < (bs.length : Int) := by omega
      have l1 : 4 * (k : Int) + 1 < (bs.length : Int) := by omega
      have l2 : 4 * (k : Int) + 2 < (bs.length : Int) := by omega
      have l3 : 4 * (k : Int) + 3 < (bs.length : Int) := by omega
      have l4 : (k : Int) < 64 := by omega
      have t0 : (4 * (k : Int)).toNat = 4 * k := by omega
      have t1 : (4 * (k : Int) + 1).toNat = 4 * k + 1 := by omega
      have t2 : (4 * (k : Int) + 2).toNat = 4 * k + 2 := by omega
      have t3 : (4 * (k : Int) + 3).toNat = 4 * k + 3 := by omega
      clear hL
      go_wp2
      go_region
      go_wp2
      go_roundw
      case rel =>
        refine ⟨k + 1, by omega, by go_num, ⟨?_⟩, ⟨HB.out.drew.setCell (Nat.le_refl _) _⟩⟩
        have hs := blk_set (blk_drew HG.out) k (.int .u32 (be32 bs k))
        rw [arrU_set] at hs
        rw [show wAt bs (k + 1) = (wAt bs k).set k (be32 bs k) from by simp [wAt, hlt]]
        exact hs
      case measure => simp [intOf]; omega
    · obtain rfl : k = 16 := by omega
      have hb11 : decide (((16 : Nat) : Int) < 16) = false := by decide
      obtain ⟨wo, rfl⟩ : ∃ wo : World, wo = wr := ⟨_, rfl⟩
      go_wp2
      go_loopw [5] (fun i W => ∃ k : Nat, 16 ≤ k ∧ k ≤ 64 ∧ i = .int .i64 k ∧ Aside0 (W.heap[w.heap.size]? = some (.cells (arrU (wAt bs k)) 155 (0, 0))) ∧ Aside0 (Below w.heap.size w W)) (fun i _ => 64 - (intOf i).toNat)
      case atStart => exact ⟨16, by omega, by omega, rfl, HG, HB⟩
      case round =>
        clear hk hlt hb11 HG HB
        obtain ⟨k, hk1, hk2, rfl, HG, HB⟩ := hrel
        by_cases hlt : k < 64
        · have hb50 : decide ((k : Int) < 64) = true := decide_eq_true (by omega)
          have cc : ∀ j : Nat, j < 64 → wr.cell? ⟨w.heap.size, j, none⟩ = some (.int .u32 ((wAt bs k).getD j 0)) := fun j hj => (blk_cell HG.out j).trans (arrU_get (by rw [wAt_length]; exact hj))
          obtain ⟨a16, g16⟩ : ∃ a, (wAt bs k).getD (k - 16) 0 = a := ⟨_, rfl⟩
          obtain ⟨a15, g15⟩ : ∃ a, (wAt bs k).getD (k - 15) 0 = a := ⟨_, rfl⟩
          obtain ⟨a7, g7⟩ : ∃ a, (wAt bs k).getD (k - 7) 0 = a := ⟨_, rfl⟩
          obtain ⟨a2, g2⟩ : ∃ a, (wAt bs k).getD (k - 2) 0 = a := ⟨_, rfl⟩
          obtain ⟨a0, g0⟩ : ∃ a, (wAt bs k).getD k 0 = a := ⟨_, rfl⟩
          have c16 := cc (k - 16) (by omega)
          have c15 := cc (k - 15) (by omega)
          have c7 := cc (k - 7) (by omega)
          have c2 := cc (k - 2) (by omega)
          have c0 := cc k hlt
          rw [g16] at c16
          rw [g15] at c15
          rw [g7] at c7
          rw [g2] at c2
          rw [g0] at c0
          have G := Aside0.mk (show wAt bs (k + 1) = (wAt bs k).set k (wMix a16 a15 a7 a2) from by simp only [wAt]; rw [if_neg (by omega), g16, g15, g7, g2])
          clear cc g16 g15 g7 g2 g0
          have hf0 := blk_frozen HG.out k
          have s16 : IntKind.i64.wrap ((k : Int) - 16) = (k : Int) - 16 := IntWalk.i64_in _ ⟨by omega, by omega⟩
          have s15 : IntKind.i64.wrap ((k : Int) - 15) = (k : Int) - 15 := IntWalk.i64_in _ ⟨by omega, by omega⟩
          have s7 : IntKind.i64.wrap ((k : Int) - 7) = (k : Int) - 7 := IntWalk.i64_in _ ⟨by omega, by omega⟩
          have s2 : IntKind.i64.wrap ((k : Int) - 2) = (k : Int) - 2 := IntWalk.i64_in _ ⟨by omega, by omega⟩
          have p16 : 0 ≤ (k : Int) - 16 := by omega
          have p15 : 0 ≤ (k : Int) - 15 := by omega
          have p7 : 0 ≤ (k : Int) - 7 := by omega
          have p2 : 0 ≤ (k : Int) - 2 := by omega
          have q16 : 16 ≤ (k : Int) := by omega
          have q15 : 15 ≤ (k : Int) := by omega
          have q7 : 7 ≤ (k : Int) := by omega
          have q2 : 2 ≤ (k : Int) := by omega
          have l16 : (k : Int) - 16 < 64 := by omega
          have l15 : (k : Int) - 15 < 64 := by omega
          have l7 : (k : Int) - 7 < 64 := by omega
          have l2 : (k : Int) - 2 < 64 := by omega
          have l0 : (k : Int) < 64 := by omega
          have t16 : ((k : Int) - 16).toNat = k - 16 := by omega
          have t15 : ((k : Int) - 15).toNat = k - 15 := by omega
          have t7 : ((k : Int) - 7).toNat = k - 7 := by omega
          have t2 : ((k : Int) - 2).toNat = k - 2 := by omega
          go_wp2
          go_region
          go_wp2_with (first | (go_at_call 142; (first | (with_reducible refine (bits_RotateLeft32.calls _ _ _ _ (rot7 _)).mono ?_) | (with_reducible refine (bits_RotateLeft32.calls _ _ _ _ (rot18 _)).mono ?_) | (with_reducible refine (bits_RotateLeft32.calls _ _ _ _ (rot17 _)).mono ?_) | (with_reducible refine (bits_RotateLeft32.calls _ _ _ _ (rot19 _)).mono ?_)); rintro e w' ⟨rfl, ⟨nd, rfl⟩⟩))
          go_region
          go_wp2
          go_roundw
          case rel =>
            (repeat apply Exists.intro)
            exact ⟨⟨k + 1, by omega, by omega, by go_num, ⟨by rw [G.out, ← arrU_set]; refine blk_set ?_ k _; exact HG.out⟩, ⟨by refine Below.setCell (p := ⟨w.heap.size, k, none⟩) ?_ (Nat.le_refl _) _; exact pw_below_drewN HB.out _⟩⟩, rfl⟩
          case measure => simp [intOf]; omega
        · obtain rfl : k = 64 := by omega
          have hb50 : decide (((64 : Nat) : Int) < 64) = false := by decide
          go_wp2
          go_ret
          exact ⟨_, rfl, Nat.le_refl _, HG.out, HB.out⟩
end Go.Proofs.Ytjnnglphdaemaaa.Q
end

section
/- impl.turnBlock: the eight words of a digest, in their place, turned by a block of 64 bytes. -/
namespace Go.Proofs.Ytjnnglphdaemaaa.Q
open Go.RowKit Go.Proofs.YtjnnglphdaemaaaW.PrintWords Go.Proofs.YtjnnglphdaemaaaW.PrintLast Go.Proofs.YtjnnglphdaemaaaW.PrintMore
set_option linter.unusedVariables false
set_option linter.unusedSimpArgs false

def tS1 (e : Int) : Int := Go.bits .xor .u32 (Go.bits .xor .u32 (rotr e 6) (rotr e 11)) (rotr e 25)
def tS0 (a : Int) : Int := Go.bits .xor .u32 (Go.bits .xor .u32 (rotr a 2) (rotr a 13)) (rotr a 22)
def tT1 (e f g h kc wc : Int) : Int := h + tS1 e + Go.bits .xor .u32 (Go.bits .and .u32 e f) (Go.bits .and .u32 (Go.bits .xor .u32 IntKind.u32.max e) g) + kc + wc
def tMaj (a b c : Int) : Int := Go.bits .xor .u32 (Go.bits .xor .u32 (Go.bits .and .u32 a b) (Go.bits .and .u32 a c)) (Go.bits .and .u32 b c)
/-- One turn of the eight words, by a constant and a word. -/
def turnStep (kc wc : Int) : List Int → List Int
  | [a, b, c, d, e, f, g, h] => [(tT1 e f g h kc wc + tS0 a + tMaj a b c) % 4294967296, a, b, c, (d + tT1 e f g h kc wc) % 4294967296, e, f, g]
  | l => l
def vAt (ks ws hs : List Int) : Nat → List Int
  | 0 => hs
  | i + 1 => turnStep (ks.getD i 0) (ws.getD i 0) (vAt ks ws hs i)

theorem vAt_eight (ks ws hs : List Int) (h : hs.length = 8) (k : Nat) : (vAt ks ws hs k).length = 8 := by
  induction k with
  | zero => exact h
  | succ k ih =>
    simp only [vAt]
    match vAt ks ws hs k, ih with
    | [a, b, c, d, e, f, g, h], _ => rfl
theorem eight {l : List Int} (h : l.length = 8) : ∃ v0 v1 v2 v3 v4 v5 v6 v7, l = [v0, v1, v2, v3, v4, v5, v6, v7] := by
  match l, h with
  | [h0, h1, h2, h3, h4, h5, h6, h7], _ => exact ⟨h0, h1, h2, h3, h4, h5, h6, h7, rfl⟩
theorem eight_set {W : World} {gv : Nat} {T : TypeId} {v0 v1 v2 v3 v4 v5 v6 v7 : Int} (n0 n1 n2 n3 n4 n5 n6 n7 : Int) (h : W.heap[gv]? = some (.cells (arrU [v0, v1, v2, v3, v4, v5, v6, v7]) T (0, 0))) :
    ((((((((W.setCell ⟨gv, 0, none⟩ (.int .u32 n0)).setCell ⟨gv, 1, none⟩ (.int .u32 n1)).setCell ⟨gv, 2, none⟩ (.int .u32 n2)).setCell ⟨gv, 3, none⟩ (.int .u32 n3)).setCell ⟨gv, 4, none⟩ (.int .u32 n4)).setCell ⟨gv, 5, none⟩ (.int .u32 n5)).setCell ⟨gv, 6, none⟩ (.int .u32 n6)).setCell ⟨gv, 7, none⟩ (.int .u32 n7)).heap[gv]? = some (.cells (arrU [n0, n1, n2, n3, n4, n5, n6, n7]) T (0, 0)) := by
  have := blk_set (blk_set (blk_set (blk_set (blk_set (blk_set (blk_set (blk_set h 0 (.int .u32 n0)) 1 (.int .u32 n1)) 2 (.int .u32 n2)) 3 (.int .u32 n3)) 4 (.int .u32 n4)) 5 (.int .u32 n5)) 6 (.int .u32 n6)) 7 (.int .u32 n7)
  simp only [arrU_set] at this
  exact this
theorem eight_below {B : Nat} {w W : World} (h : Below B w W) {gv : Nat} (hg : B ≤ gv) (u0 u1 u2 u3 u4 u5 u6 u7 : Value) :
    Below B w ((((((((W.setCell ⟨gv, 0, none⟩ u0).setCell ⟨gv, 1, none⟩ u1).setCell ⟨gv, 2, none⟩ u2).setCell ⟨gv, 3, none⟩ u3).setCell ⟨gv, 4, none⟩ u4).setCell ⟨gv, 5, none⟩ u5).setCell ⟨gv, 6, none⟩ u6).setCell ⟨gv, 7, none⟩ u7) :=
  (((((((h.setCell (p := ⟨gv, 0, none⟩) hg _).setCell (p := ⟨gv, 1, none⟩) hg _).setCell (p := ⟨gv, 2, none⟩) hg _).setCell (p := ⟨gv, 3, none⟩) hg _).setCell (p := ⟨gv, 4, none⟩) hg _).setCell (p := ⟨gv, 5, none⟩) hg _).setCell (p := ⟨gv, 6, none⟩) hg _).setCell (p := ⟨gv, 7, none⟩) hg _
theorem eight_far {W : World} {g gv : Nat} {t : TypeId} {cs : Array Value} (h : W.heap[g]? = some (.cells cs t (0, 0))) (hne : g ≠ gv) (u0 u1 u2 u3 u4 u5 u6 u7 : Value) :
    ((((((((W.setCell ⟨gv, 0, none⟩ u0).setCell ⟨gv, 1, none⟩ u1).setCell ⟨gv, 2, none⟩ u2).setCell ⟨gv, 3, none⟩ u3).setCell ⟨gv, 4, none⟩ u4).setCell ⟨gv, 5, none⟩ u5).setCell ⟨gv, 6, none⟩ u6).setCell ⟨gv, 7, none⟩ u7).heap[g]? = some (.cells cs t (0, 0)) :=
  blk_far (blk_far (blk_far (blk_far (blk_far (blk_far (blk_far (blk_far h hne _) hne _) hne _) hne _) hne _) hne _) hne _) hne _
def addAt (hs vs : List Int) : Nat → List Int
  | 0 => hs
  | i + 1 => (addAt hs vs i).set i (((addAt hs vs i).getD i 0 + vs.getD i 0) % 4294967296)
theorem addAt_length (hs vs : List Int) (i : Nat) : (addAt hs vs i).length = hs.length := by
  induction i with
  | zero => rfl
  | succ i ih => simp [addAt, ih]
def turned (ks bs hs : List Int) : List Int := addAt hs (vAt ks (wAt bs 64) hs 64) 8

set_option maxHeartbeats 4000000 in
set_option maxRecDepth 100000 in
theorem turnBlock_calls (gh gk : Nat) (A : Option Addr) (c : Nat) (bs hs ks : List Int) (w : World) (hr : Kd.C (Kd.int .u8) w A bs.length bs) (hl : bs.length = 64) (hh : hs.length = 8) (hk : ks.length = 64)
    (hgh : w.heap[gh]? = some (.cells (arrU hs) 139 (0, 0))) (hgk : w.heap[gk]? = some (.cells (arrU ks) 155 (0, 0))) :
    Calls Try.prog 126 #[.pointer (some ⟨gh, 0, none⟩), .slice A bs.length c, .pointer (some ⟨gk, 0, none⟩)] w fun e w' => e = .returned (.tuple #[]) ∧ w.grownBy w' (some gh) ∧ w'.heap[gh]? = some (.cells (arrU (turned ks bs hs)) 139 (0, 0)) := by
  have HL := Aside0.mk hl
  have HK := Aside0.mk hk
  have HGH := Aside0.mk hgh
  have HGK := Aside0.mk hgk
  have HR := Aside0.mk hr
  obtain ⟨h0, h1, h2, h3, h4, h5, h6, h7, rfl⟩ := eight hh
  clear hr hl hh hk hgh hgk
  go_enter Try.func126, Try.ntmps126
  go_wp2_with (go_at_call 141; (with_reducible refine (wordsOf_calls _ _ bs _ HR.out HL.out).mono ?_); rintro e w1 ⟨gw, rfl, hw1, hw2, hb⟩; have HW1 := Aside0.mk hw1; have HW2 := Aside0.mk hw2; have HB := Aside0.mk hb; have HGH1 := Aside0.mk (blk_below HGH.out hb); have HGK1 := Aside0.mk (blk_below HGK.out hb); clear hw1 hw2 hb; have q0 := blk_cell HGH1.out 0; have q1 := blk_cell HGH1.out 1; have q2 := blk_cell HGH1.out 2; have q3 := blk_cell HGH1.out 3; have q4 := blk_cell HGH1.out 4; have q5 := blk_cell HGH1.out 5; have q6 := blk_cell HGH1.out 6; have q7 := blk_cell HGH1.out 7; simp only [arrU, nums, List.map_cons, List.map_nil, List.getElem?_toArray, List.getElem?_cons_zero, List.getElem?_cons_succ] at q0 q1 q2 q3 q4 q5 q6 q7)
  clear q0 q1 q2 q3 q4 q5 q6 q7
  have HGH2 := Aside0.mk (blk_alloc HGH1.out (.cells #[.int .u32 h0, .int .u32 h1, .int .u32 h2, .int .u32 h3, .int .u32 h4, .int .u32 h5, .int .u32 h6, .int .u32 h7] 139))
  have HGK2 := Aside0.mk (blk_alloc HGK1.out (.cells #[.int .u32 h0, .int .u32 h1, .int .u32 h2, .int .u32 h3, .int .u32 h4, .int .u32 h5, .int .u32 h6, .int .u32 h7] 139))
  have HW22 := Aside0.mk (blk_alloc HW2.out (.cells #[.int .u32 h0, .int .u32 h1, .int .u32 h2, .int .u32 h3, .int .u32 h4, .int .u32 h5, .int .u32 h6, .int .u32 h7] 139))
  have HN := Aside0.mk (blk_new w1 (.cells #[.int .u32 h0, .int .u32 h1, .int .u32 h2, .int .u32 h3, .int .u32 h4, .int .u32 h5, .int .u32 h6, .int .u32 h7] 139))
  have HB2 := Aside0.mk (HB.out.alloc HB.out.size (.cells #[.int .u32 h0, .int .u32 h1, .int .u32 h2, .int .u32 h3, .int .u32 h4, .int .u32 h5, .int .u32 h6, .int .u32 h7] 139))
  obtain ⟨gv, hgv⟩ : ∃ gv, w1.heap.size = gv := ⟨_, rfl⟩
  rw [hgv] at HN ⊢
  have HV := Aside0.mk (show w.heap.size ≤ gv from by rw [← hgv]; exact HB.out.size)
  clear hgv
  generalize w1.alloc (.cells #[.int .u32 h0, .int .u32 h1, .int .u32 h2, .int .u32 h3, .int .u32 h4, .int .u32 h5, .int .u32 h6, .int .u32 h7] 139) = w2 at HGH2 HGK2 HW22 HN HB2 ⊢
  clear HGH1 HGK1 HW2 HB
  go_loopw [22] (fun i W => ∃ k : Nat, k ≤ 64 ∧ i = .int .i64 k ∧ Aside0 (W.heap[gv]? = some (.cells (arrU (vAt ks (wAt bs 64) [h0, h1, h2, h3, h4, h5, h6, h7] k)) 139 (0, 0))) ∧ Aside0 (Below w.heap.size w W) ∧ Aside0 (W.heap[gw]? = some (.cells (arrU (wAt bs 64)) 155 (0, 0)))) (fun i _ => 64 - (intOf i).toNat)
  case atStart => exact ⟨0, by omega, rfl, HN, HB2, HW22⟩
  case round =>
    clear HN HB2 HW22
    obtain ⟨k, hk, rfl, HN, HB, HW⟩ := hrel
    by_cases hlt : k < 64
    · obtain ⟨v0, v1, v2, v3, v4, v5, v6, v7, hv⟩ : ∃ v0 v1 v2 v3 v4 v5 v6 v7, vAt ks (wAt bs 64) [h0, h1, h2, h3, h4, h5, h6, h7] k = [v0, v1, v2, v3, v4, v5, v6, v7] := eight (vAt_eight _ _ _ rfl k)
      have HN2 := HN.out
      rw [hv] at HN2
      have HNN := Aside0.mk HN2
      have q0 := blk_cell HN2 0
      have q1 := blk_cell HN2 1
      have q2 := blk_cell HN2 2
      have q3 := blk_cell HN2 3
      have q4 := blk_cell HN2 4
      have q5 := blk_cell HN2 5
      have q6 := blk_cell HN2 6
      have q7 := blk_cell HN2 7
      simp only [arrU, nums, List.map_cons, List.map_nil, List.getElem?_toArray, List.getElem?_cons_zero, List.getElem?_cons_succ] at q0 q1 q2 q3 q4 q5 q6 q7
      have f0 := blk_frozen HN2 0
      have f1 := blk_frozen HN2 1
      have f2 := blk_frozen HN2 2
      have f3 := blk_frozen HN2 3
      have f4 := blk_frozen HN2 4
      have f5 := blk_frozen HN2 5
      have f6 := blk_frozen HN2 6
      have f7 := blk_frozen HN2 7
      clear HN2
      have hkc : wr.cell? ⟨gk, k, none⟩ = some (.int .u32 (ks.getD k 0)) := (blk_cell ((HB.out.block gk (blk_lt HGK.out)).trans HGK.out) k).trans (arrU_get (by rw [HK.out]; omega))
      have hwc : wr.cell? ⟨gw, k, none⟩ = some (.int .u32 ((wAt bs 64).getD k 0)) := (blk_cell HW.out k).trans (arrU_get (by rw [wAt_length]; omega))
      obtain ⟨kc, gkc⟩ : ∃ a, ks.getD k 0 = a := ⟨_, rfl⟩
      obtain ⟨wc, gwc⟩ : ∃ a, (wAt bs 64).getD k 0 = a := ⟨_, rfl⟩
      rw [gkc] at hkc
      rw [gwc] at hwc
      have HV1 := Aside0.mk (show vAt ks (wAt bs 64) [h0, h1, h2, h3, h4, h5, h6, h7] (k + 1) = turnStep kc wc [v0, v1, v2, v3, v4, v5, v6, v7] from by rw [← hv, ← gkc, ← gwc]; rfl)
      clear hv gkc gwc
      have b22 : decide ((k : Int) < 64) = true := decide_eq_true (by omega)
      have l64 : (k : Int) < 64 := by omega
      go_wp2
      go_region
      go_wp2_with (first | (go_at_call 142; (first | (with_reducible refine (bits_RotateLeft32.calls _ _ _ _ (rot6 _)).mono ?_) | (with_reducible refine (bits_RotateLeft32.calls _ _ _ _ (rot11 _)).mono ?_) | (with_reducible refine (bits_RotateLeft32.calls _ _ _ _ (rot25 _)).mono ?_)); rintro e w' ⟨rfl, ⟨nd, rfl⟩⟩))
      go_region
      go_wp2_with (first | (go_at_call 142; (first | (with_reducible refine (bits_RotateLeft32.calls _ _ _ _ (rot2 _)).mono ?_) | (with_reducible refine (bits_RotateLeft32.calls _ _ _ _ (rot13 _)).mono ?_) | (with_reducible refine (bits_RotateLeft32.calls _ _ _ _ (rot22 _)).mono ?_)); rintro e w' ⟨rfl, ⟨nd, rfl⟩⟩))
      go_roundw
      case rel =>
        refine ⟨k + 1, by omega, by go_num, ⟨?_⟩, ⟨?_⟩, ⟨?_⟩⟩
        · rw [HV1.out]
          exact eight_set _ _ _ _ _ _ _ _ (blk_drewN HNN.out _)
        · exact eight_below (pw_below_drewN HB.out _) HV.out _ _ _ _ _ _ _ _
        · exact eight_far (blk_drewN HW.out _) (blk_ne HW.out HNN.out (by decide)) _ _ _ _ _ _ _ _
      case measure => simp [intOf]; omega
    · obtain rfl : k = 64 := by omega
      have b22 : decide (((64 : Nat) : Int) < 64) = false := by decide
      obtain ⟨wo, rfl⟩ : ∃ wo : World, wo = wr := ⟨_, rfl⟩
      go_wp2
      generalize hvv : vAt ks (wAt bs 64) [h0, h1, h2, h3, h4, h5, h6, h7] 64 = vs at HN
      have hvl : vs.length = 8 := by rw [← hvv]; exact vAt_eight _ _ _ rfl _
      have HVV := Aside0.mk hvv
      have HVL := Aside0.mk hvl
      clear hvv hvl
      go_loopw [109] (fun i W => ∃ k : Nat, k ≤ 8 ∧ i = .int .i64 k ∧ Aside0 (W.heap[gh]? = some (.cells (arrU (addAt [h0, h1, h2, h3, h4, h5, h6, h7] vs k)) 139 (0, 0))) ∧ Aside0 (W.heap[gv]? = some (.cells (arrU vs) 139 (0, 0))) ∧ Aside0 (w.grownBy W (some gh))) (fun i _ => 8 - (intOf i).toNat)
      case atStart => exact ⟨0, by omega, rfl, ⟨(HB.out.block gh (blk_lt HGH.out)).trans HGH.out⟩, HN, ⟨grown_of_below HB.out _⟩⟩
      case round =>
        clear hlt hk b22 HN HB HW
        obtain ⟨k, hk, rfl, HH, HN, HB⟩ := hrel
        by_cases hlt : k < 8
        · have hne : gh ≠ gv := by have := blk_lt HGH.out; have := HV.out; omega
          have HNE := Aside0.mk hne
          have ch : wr.cell? ⟨gh, k, none⟩ = some (.int .u32 ((addAt [h0, h1, h2, h3, h4, h5, h6, h7] vs k).getD k 0)) := (blk_cell HH.out k).trans (arrU_get (by rw [addAt_length]; exact hlt))
          have cv : wr.cell? ⟨gv, k, none⟩ = some (.int .u32 (vs.getD k 0)) := (blk_cell HN.out k).trans (arrU_get (by rw [HVL.out]; exact hlt))
          obtain ⟨a, ga⟩ : ∃ a, (addAt [h0, h1, h2, h3, h4, h5, h6, h7] vs k).getD k 0 = a := ⟨_, rfl⟩
          obtain ⟨b, gb⟩ : ∃ a, vs.getD k 0 = a := ⟨_, rfl⟩
          rw [ga] at ch
          rw [gb] at cv
          have G := Aside0.mk (show addAt [h0, h1, h2, h3, h4, h5, h6, h7] vs (k + 1) = (addAt [h0, h1, h2, h3, h4, h5, h6, h7] vs k).set k ((a + b) % 4294967296) from by rw [← ga, ← gb]; rfl)
          have fh := blk_frozen HH.out k
          have b110 : decide ((k : Int) < 8) = true := decide_eq_true (by omega)
          have l8 : (k : Int) < 8 := by omega
          clear ga gb hne
          go_wp2
          go_region
          go_wp2
          go_roundw
          case rel =>
            refine ⟨k + 1, by omega, by go_num, ⟨?_⟩, ⟨?_⟩, ⟨?_⟩⟩
            · rw [G.out, ← arrU_set]
              exact blk_set (blk_drew HH.out) k _
            · exact blk_far (blk_drew HN.out) HNE.out.symm _
            · exact ⟨HB.out.os, HB.out.tape, HB.out.output, by simpa [World.setCell] using HB.out.size, fun i hi hn => (Below.heap_setCell _ _ _ _ (fun e => hn (by rw [e]))).trans (HB.out.block i hi hn)⟩
          case measure => simp [intOf]; omega
        · obtain rfl : k = 8 := by omega
          have b110 : decide (((8 : Nat) : Int) < 8) = false := by decide
          go_wp2
          refine bodyPost_end (results_none rfl _ _ _) rfl ?_
          refine ⟨rfl, HB.out, ?_⟩
          unfold turned
          rw [HVV.out]
          exact HH.out
end Go.Proofs.Ytjnnglphdaemaaa.Q
end

section
/- slices.Chunk of bytes, 64 at a time, over a row whose length is a multiple of 64: the iterator's contract; a round may write one block of its caller's. -/
namespace Go.Proofs.Ytjnnglphdaemaaa.Q
open Go.RowKit Go.Shelf Go.Proofs.YtjnnglphdaemaaaW.PrintWords Go.Proofs.YtjnnglphdaemaaaW.PrintLast Go.Proofs.YtjnnglphdaemaaaW.PrintMore
set_option linter.unusedVariables false
set_option linter.unusedSimpArgs false

/-- Below block B, but for block g, the world is as it was. -/
structure BelowBut (B g : Nat) (w w' : World) : Prop where
  os : w'.os = w.os
  tape : w'.tape = w.tape
  output : w'.output = w.output
  size : w.heap.size ≤ w'.heap.size
  block : ∀ k, k < B → k ≠ g → w'.heap[k]? = w.heap[k]?
theorem BelowBut.refl (B g : Nat) (w : World) : BelowBut B g w w := ⟨rfl, rfl, rfl, Nat.le_refl _, fun _ _ _ => rfl⟩
theorem BelowBut.trans {B g : Nat} {a b c : World} (h : BelowBut B g a b) (k : BelowBut B g b c) : BelowBut B g a c :=
  ⟨k.os.trans h.os, k.tape.trans h.tape, k.output.trans h.output, Nat.le_trans h.size k.size, fun i hi hn => (k.block i hi hn).trans (h.block i hi hn)⟩
theorem BelowBut.drew {B g : Nat} {a w : World} (h : BelowBut B g a w) : BelowBut B g a w.drew := ⟨h.os, h.tape, h.output, h.size, h.block⟩
theorem BelowBut.grown {B g : Nat} {w w' : World} (h : w.grownBy w' (some g)) (hB : B ≤ w.heap.size) : BelowBut B g w w' :=
  ⟨h.os, h.tape, h.output, h.size, fun k hk hn => h.block k (by omega) (fun e => hn (Option.some.inj e))⟩
theorem BelowBut.putObj {n₀ g : Nat} {w : World} (hn : n₀ ≤ w.heap.size) (W : World) (l : Nat) (o o' : Obj) (hl : w.heap.size ≤ l) (h : W.heap[l]? = some o) (_ : o.isCells = false) (_ : o.isWalk = false) : BelowBut n₀ g W (W.putObj l o') := by
  have hg := grownBy_putObj' W l o'
  exact ⟨hg.os, hg.tape, hg.output, hg.size, fun k hk _ => hg.block k (by have := (Array.getElem?_eq_some_iff.1 h).1; omega) (fun e => by cases e; omega)⟩
theorem BelowBut.cell {B g : Nat} {w w' : World} (h : BelowBut B g w w') {p : Addr} (hp : p.block < B) (hn : p.block ≠ g) : w'.cell? p = w.cell? p := World.cell?_of_block (w := w) (h.block p.block hp hn)

/-- The places at which the blocks begin. -/
def starts (k : Nat) : List Nat := (List.range k).map (64 * ·)
theorem starts_succ (k : Nat) : starts (k + 1) = starts k ++ [64 * k] := by simp [starts, List.range_succ]
theorem starts_length (k : Nat) : (starts k).length = k := by simp [starts]

attribute [local go_sem] Oper.semAt_some

set_option maxRecDepth 100000 in
set_option maxHeartbeats 2000000 in
theorem chunk1_in (F : Fence) (n : Nat) (hF : F.fn 140) (hro : F.round = none) (hn : 1 ≤ n) (l Bs Bn n₀ gh b off cap m L : Nat) (hL : L = 64 * m) (hcap : L ≤ cap) (hreach : L ≤ 140737488355328)
    (hb : b < n₀) (hbs : Bs < n₀) (hbn : Bn < n₀) (hs1 : Bs ≠ gh) (hs2 : Bn ≠ gh) (J Jx : List Nat → World → Prop)
    (hY : ∀ pre x W, J pre W → pre.length < m → x + 64 ≤ L → YieldAt F (n - 1) Try.prog l #[.slice (some ⟨b, off + x, none⟩) 64 64] W fun e W' =>
      (e = .returned (.bool true) ∧ J (pre ++ [x]) W' ∧ BelowBut n₀ gh W W') ∨ (e = .returned (.bool false) ∧ Jx (pre ++ [x]) W'))
    (W : World) (hJ : AbidesFrom W.heap.size J) (hBs : W.cell? ⟨Bs, 0, none⟩ = some (.slice (some ⟨b, off, none⟩) L cap)) (hBn : W.cell? ⟨Bn, 0, none⟩ = some (.int .i64 64)) (h0 : J [] W) :
    CallsIn F n Try.prog 140 #[.func (.yield l) #[] #[], .pointer (some ⟨Bs, 0, none⟩), .pointer (some ⟨Bn, 0, none⟩)] W fun e W' => (∃ v, e = .returned v) ∧
      ((∃ ys, ys = starts m ∧ J ys W') ∨ (∃ pre, True ∧ Jx pre W')) := by
  refine callsIn_of_wp Try.func140 rfl hF ?_ hro
  have HL := Aside0.mk hL
  clear hL
  simp only [Try.ntmps140, List.size_toArray, List.length_cons, List.length_nil, Nat.reduceAdd, Nat.reduceSub, Array.replicate_succ, Array.replicate_zero, List.push_toArray, List.append_toArray, List.nil_append, List.cons_append]
  gi_wp2
  gi_loopw [4] (fun i wr => ∃ k i0 : Nat, k ≤ m ∧ Aside0 (i0 = 64 * k) ∧ i = .int .i64 i0 ∧ J (starts k) wr ∧ BelowBut n₀ gh W wr)
    (fun i _ => L - (intOf i).toNat)
  case atStart => exact ⟨0, 0, Nat.zero_le _, ⟨rfl⟩, rfl, h0, BelowBut.refl _ _ _⟩
  case round =>
    obtain ⟨k, i, hk, HI, rfl, hJs, hnx⟩ := hrel
    have c1 : wr.cell? ⟨Bs, 0, none⟩ = some (.slice (some ⟨b, off, none⟩) L cap) := (hnx.cell (p := ⟨Bs, 0, none⟩) hbs hs1).trans hBs
    have c2 : wr.cell? ⟨Bn, 0, none⟩ = some (.int .i64 64) := (hnx.cell (p := ⟨Bn, 0, none⟩) hbn hs2).trans hBn
    have hi := HI.out
    have hl := HL.out
    by_cases hlt : i < L
    · have hdrew : J (starts k) wr.drew := hJ _ _ _ none hJs ⟨rfl, rfl, rfl, Nat.le_refl _, fun _ _ _ => rfl⟩ (fun r e => by cases e)
      obtain ⟨fn, tmps, assign, body, hy, hR⟩ := hY _ i wr.drew hdrew (by rw [starts_length]; omega) (by omega)
      have hle : i + 64 ≤ L := by omega
      clear hi hl
      have b1 : decide (i < L) = true := decide_eq_true hlt
      gi_wp2
      gi_region
      all_goals
        gi_wp2
        refine hR.mono ?_
        rintro e W3 (⟨rfl, hJ3, hk3⟩ | ⟨rfl, hJx3⟩)
        · have c3 : W3.cell? ⟨Bn, 0, none⟩ = some (.int .i64 64) := (hk3.cell (p := ⟨Bn, 0, none⟩) hbn hs2).trans c2
          gi_wp2
          go_roundw
          case rel => exact ⟨k + 1, i + 64, by have h1 := HI.out; have h2 := HL.out; omega, ⟨by have h1 := HI.out; omega⟩, by go_num, by rw [starts_succ, ← HI.out]; exact hJ3, hnx.drew.trans hk3⟩
          case measure => simp [intOf]; omega
        · gi_wp2
          refine bodyPost_ret (results_none rfl _ _ _) rfl ?_
          exact ⟨⟨_, rfl⟩, .inr ⟨_, trivial, hJx3⟩⟩
    · have b1 : decide (i < L) = false := decide_eq_false hlt
      have hkm : k = m := by omega
      rw [hkm] at hJs
      clear hi hl hkm
      gi_wp2
      go_end0
      exact ⟨⟨_, rfl⟩, .inl ⟨_, rfl, hJs⟩⟩

/-- slices.Chunk(s, 64) as a sequence: all of s, 64 bytes at a time. -/
theorem chunk_stops (F : Fence) (n : Nat) (hF : F.fn 140) (hro : F.round = none) (hn : 1 ≤ n) (Bs Bn n₀ gh b off cap m L : Nat) (hL : L = 64 * m) (hcap : L ≤ cap) (hreach : L ≤ 140737488355328)
    (hb : b < n₀) (hbs : Bs < n₀) (hbn : Bn < n₀) (hs1 : Bs ≠ gh) (hs2 : Bn ≠ gh) (w : World) (hn₀ : n₀ ≤ w.heap.size)
    (hBs : w.cell? ⟨Bs, 0, none⟩ = some (.slice (some ⟨b, off, none⟩) L cap)) (hBn : w.cell? ⟨Bn, 0, none⟩ = some (.int .i64 64)) :
    SeqStopsK F n Try.prog 140 #[.pointer (some ⟨Bs, 0, none⟩), .pointer (some ⟨Bn, 0, none⟩)] (fun x : { x : Nat // x + 64 ≤ L } => #[Value.slice (some ⟨b, off + x.1, none⟩) 64 64]) (BelowBut n₀ gh)
      (fun ys => ys.map (·.1) = starts m) (fun _ => True) m w := fun l J Jx W hW hJ _ hY h0 => by
  have hBs' := (hW.cell (p := ⟨Bs, 0, none⟩) (Nat.lt_of_lt_of_le hbs hn₀)).trans hBs
  have hBn' := (hW.cell (p := ⟨Bn, 0, none⟩) (Nat.lt_of_lt_of_le hbn hn₀)).trans hBn
  refine (chunk1_in F n hF hro hn l Bs Bn n₀ gh b off cap m L hL hcap hreach hb hbs hbn hs1 hs2 (fun pre W => ∃ q : List { x : Nat // x + 64 ≤ L }, q.map (·.1) = pre ∧ J q W) (fun pre W => ∃ q : List { x : Nat // x + 64 ≤ L }, q.map (·.1) = pre ∧ Jx q W) ?_ W ?_ hBs' hBn' ⟨[], rfl, h0⟩).mono ?_
  · rintro pre x W1 ⟨q, rfl, hq⟩ hlen hx
    obtain ⟨fn, tmps, assign, body, hy, hR⟩ := hY q ⟨x, hx⟩ W1 hq (by simpa using hlen)
    refine ⟨fn, tmps, assign, body, hy, hR.mono ?_⟩
    rintro e W' (⟨rfl, hJ1, hk⟩ | ⟨rfl, hJx⟩)
    · exact .inl ⟨rfl, ⟨_, by simp, hJ1⟩, hk⟩
    · exact .inr ⟨rfl, _, by simp, hJx⟩
  · rintro s A B row ⟨q, rfl, hq⟩ hg hr
    exact ⟨q, rfl, hJ q A B row hq hg hr⟩
  · rintro e W' ⟨he, ⟨ys, rfl, q, hq, hj⟩ | ⟨pre, _, q, hq, hj⟩⟩
    · exact ⟨he, .inl ⟨q, hq, hj⟩⟩
    · exact ⟨he, .inr ⟨q, trivial, hj⟩⟩

set_option maxHeartbeats 1000000 in
set_option maxRecDepth 100000 in
/-- slices.Chunk(s, 64): s and 64 are boxed; the function value captures the boxes. -/
theorem chunk_in (F : Fence) (n : Nat) (hF : F.fn 124) (hro : F.round = none) (a : Option Addr) (len cap : Nat) (w : World) :
    CallsIn F n Try.prog 124 #[.slice a len cap, .int .i64 64] w fun e w' => e = .returned (.func (.func 140) #[] #[.pointer (some ⟨w.heap.size, 0, none⟩), .pointer (some ⟨w.heap.size + 1, 0, none⟩)]) ∧ w' = (w.alloc (.cells #[.slice a len cap] 22)).alloc (.cells #[.int .i64 64] 3) := by
  refine callsIn_of_wp Try.func124 rfl hF ?_ hro
  simp only [Try.ntmps124, List.size_toArray, List.length_cons, List.length_nil, Nat.reduceAdd, Nat.reduceSub, Array.replicate_succ, Array.replicate_zero, List.push_toArray, List.append_toArray, List.nil_append, List.cons_append]
  gi_wp2
  go_ret
  exact ⟨rfl, rfl⟩
end Go.Proofs.Ytjnnglphdaemaaa.Q
end

section
/- Plain words for the pure proofs: numbers that need no wrap, lists by their places, and answers that stand from some number of rounds on. -/
namespace Go.Proofs.Ytjnnglphdaemaaa.B
open Go.RowKit Go.Proofs.YtjnnglphdaemaaaW.PrintWords

theorem w64 {x : Int} (h0 : -9223372036854775808 ≤ x) (h1 : x ≤ 9223372036854775807) : wrap64 x = x := by
  unfold wrap64
  omega

theorem Ev.pos {α : Type} {c : Prop} [Decidable c] {g f : Nat → Option α} {r : α} (h : c) (k : Ev g r) : Ev (fun n => if c then g n else f n) r := Ev.congr (fun _ => if_pos h) k
theorem Ev.neg {α : Type} {c : Prop} [Decidable c] {g f : Nat → Option α} {r : α} (h : ¬ c) (k : Ev f r) : Ev (fun n => if c then g n else f n) r := Ev.congr (fun _ => if_neg h) k
theorem Ev.const {α : Type} {a : Option α} {r : α} (h : a = some r) : Ev (fun _ => a) r := ⟨0, fun _ _ => h⟩
theorem Ev.one {α : Type} {g : Nat → Option α} {a r : α} (h : Ev g a) (e : a = r) : Ev g r := e ▸ h

theorem rdOf_at {α : Type} {d : α} {l : List α} {i : Nat} {x : α} (h : l[i]? = some x) : rdOf d l (i : Int) = x := by
  unfold rdOf
  simp [List.getD_eq_getElem?_getD, h]
theorem rd_at {l : List Int} {i : Nat} {x : Int} (h : l[i]? = some x) : rd l (i : Int) = x := by
  unfold rd
  simp [List.getD_eq_getElem?_getD, h]
theorem bytes_ext {a b : ByteArray} (h : a.toList = b.toList) : a = b := by
  have hd : ∀ c : ByteArray, c.toList = c.data.toList := fun c => Go.Lib.toList_data c
  rw [hd, hd] at h
  cases a
  cases b
  simpa [Array.toList_inj] using h
theorem take_one {α : Type} {l : List α} {i : Nat} {x : α} (h : l[i]? = some x) : l.take (i + 1) = l.take i ++ [x] := by
  obtain ⟨hi, he⟩ := List.getElem?_eq_some_iff.1 h
  rw [List.take_succ_eq_append_getElem hi, he]
theorem drop_one {α : Type} {l : List α} {i : Nat} {x : α} (h : l[i]? = some x) : l.drop i = x :: l.drop (i + 1) := by
  obtain ⟨hi, he⟩ := List.getElem?_eq_some_iff.1 h
  rw [List.drop_eq_getElem_cons hi, he]
theorem get_some {α : Type} {l : List α} {i : Nat} (hi : i < l.length) : ∃ x, l[i]? = some x := ⟨l[i], List.getElem?_eq_getElem hi⟩
/-- Bytes of all texts of a list. -/
def total (l : List ByteArray) : Int := (l.map fun s => (s.size : Int)).sum
theorem total_nonneg (l : List ByteArray) : 0 ≤ total l := by
  unfold total
  induction l with
  | nil => simp
  | cons a l ih =>
    simp only [List.map_cons, List.sum_cons]
    omega
theorem total_cons (a : ByteArray) (l : List ByteArray) : total (a :: l) = a.size + total l := by simp [total]
theorem total_mem {l : List ByteArray} {s : ByteArray} (h : s ∈ l) : (s.size : Int) ≤ total l := by
  induction l with
  | nil => simp at h
  | cons a l ih =>
    rw [total_cons]
    have := total_nonneg l
    rcases List.mem_cons.1 h with rfl | h
    · omega
    · have := ih h
      omega
end Go.Proofs.Ytjnnglphdaemaaa.B
end

section
/- slices.Clone of bytes and of texts: the same list in new memory (bounds: what append takes). -/
namespace Go.Proofs.Ytjnnglphdaemaaa.Q
open Go.RowKit Go.Proofs.YtjnnglphdaemaaaW.PrintWords Go.Proofs.YtjnnglphdaemaaaW.PrintLast Go.Proofs.YtjnnglphdaemaaaW.PrintMore
set_option linter.unusedVariables false
set_option linter.unusedSimpArgs false

def slices_Clone_byte_byte.f (l0 : List Int) : Option (List Int) := if l0.length ≤ 140737488355328 then some l0 else none
theorem slices_Clone_byte_byte.info : (Try.prog.info? 5).map (fun i => (i.zero, i.size, i.bytes)) = some (some (.int .u8 0), 1, 1) := by kernel_rfl
set_option maxHeartbeats 1000000 in
set_option maxRecDepth 100000 in
theorem slices_Clone_byte_byte.calls (A0 : Option Addr) (c0 : Nat) (l0 : List Int) (r : List Int) (w : World) (hr0 : Kd.C (Kd.int .u8) w A0 l0.length l0) (hc0 : l0.length ≤ c0) (h : slices_Clone_byte_byte.f l0 = some r) :
    Calls Try.prog 85 #[.slice A0 l0.length c0] w fun e w' => ∃ v0_ : Value, e = .returned (v0_) ∧ Kd.R (Kd.int .u8) 5 w' w.heap.size (fun _ => True) v0_ r ∧ Below w.heap.size w w' := by
  unfold slices_Clone_byte_byte.f at h
  by_cases hl : l0.length ≤ 140737488355328
  · rw [if_pos hl] at h
    obtain rfl := Option.some.inj h
    have LM := Aside0.mk hl
    have HR0 := Aside0.mk hr0
    have HC0 := Aside0.mk hc0
    have hn := fun W : World => Lib.run_eql_slice_nil (P := Try.prog) W 22 5 A0 l0.length c0 0 0 Try.underlying22
    clear hl h hc0
    cases A0 with
    | none =>
      have h0 : l0 = [] := by
        rcases Nat.eq_zero_or_pos l0.length with hz | hz
        · exact List.eq_nil_of_length_eq_zero hz
        · obtain ⟨ad, he, _⟩ := hr0.2.2 hz
          cases he
      subst h0
      clear hr0 hn
      have hn2 := fun W : World => Lib.run_eql_slice_nil (P := Try.prog) W 22 5 none 0 c0 0 0 Try.underlying22
      go_enter Try.func85, Try.ntmps85
      go_wp2
      go_ret
      exact ⟨_, rfl, Kd.R_nil _ _ _ _ _, Below.refl _ _⟩
    | some ad =>
      clear hr0
      go_enter Try.func85, Try.ntmps85
      go_wp2_with (first | ((with_reducible refine gate_dst (N := 5) rfl ?_); refine Kd.R_lit (Kd.int .u8) _ 5 ?hg (N := 5) ?hd (w0 := w) (xs := ([] : List Int)) (inner := []) (ok := fun _ => True) (okp := fun _ => True) ?hr ?hp (fun _ hk => hk) trivial (Below.refl _ _) (Nat.le_refl _) (by simp) ?_; (case hd => rfl); (case hg => rfl); (case hr => first | (go_simp; done) | (go_simp; rfl)); (case hp => exact (Reps.none _ _)); intro v1 w4 ho5 hb hg_ hnew_; clear hg_ hnew_; have HO := Aside0.mk ho5; have HB := Aside0.mk hb; clear ho5 hb) | ((with_reducible refine gate_builtin (b := .append) (xs := #[.tmp 5, .tmp 6]) rfl ?_); at_builtin; refine Kd.R_append_rows (Kd.int .u8) (w0 := w) w.heap.size rfl (.tmp 5) (.tmp 6) 22 5 (.int .u8 0) 1 rfl Try.underlying22 slices_Clone_byte_byte.info rfl (by decide) (by omega) v1 [] l0 _ _ _ (fun _ => True) (fun _ => False) rfl rfl ?aO ?aR (fun _ _ h => h) (fun _ h => h.elim) ?aF ?aB ?aS ?aL ?_; (case aR => exact Kd.C_below HR0.out HB.out); (case aB => exact HB.out); (case aF => exact (fun _ _ => trivial)); (case aO => exact HO.out); (case aS => exact HB.out.size); (case aL => have := LM.out; simp only [List.length_nil]; omega); intro v2 w6 ho hb hg hat; have HO2 := Aside0.mk ho; have HB2 := Aside0.mk hb; clear ho hb hg hat))
      go_ret
      exact ⟨_, rfl, by simpa using HO2.out, HB2.out⟩
  · rw [if_neg hl] at h
    cases h
end Go.Proofs.Ytjnnglphdaemaaa.Q
end

section
-- Written by a program of this session (wip/tools/pp.sh) over the print of the kit.
namespace Go.Proofs.Ytjnnglphdaemaaa.Q
open Go.RowKit Go.Proofs.YtjnnglphdaemaaaW.PrintWords Go.Proofs.YtjnnglphdaemaaaW.PrintLast Go.Proofs.YtjnnglphdaemaaaW.PrintMore
attribute [local go_sem] max2_int min2_int max_two min_two max_three min_three max_four min_four   -- for this text's walks alone
set_option linter.unusedVariables false
set_option linter.unusedSimpArgs false
mutual
def impl_Padded.l0 : Nat → List Int → List Int → Option (List Int)
 | 0, _, _ => none
 | k + 1, x0, x3 => if (Int.tmod (wrap64 ((x3.length : Int) + 8)) 64) = 0 then (impl_Padded.l1 k x3 (wrap64 (8 * (x0.length : Int))) 7) else (if x3.length < 140737488355328 then (impl_Padded.l0 k x0 (x3 ++ [0])) else (none))
def impl_Padded.l1 : Nat → List Int → Int → Int → Option (List Int)
 | 0, _, _, _ => none
 | k + 1, x3, x4, x5 => if x5 ≥ 0 then (if 0 ≤ (IntKind.u64.wrap (wrap64 (8 * x5))) then (if x3.length < 140737488355328 then (impl_Padded.l1 k (x3 ++ [(shr .i64 x4 (IntKind.u64.wrap (wrap64 (8 * x5)))) % 256]) x4 (wrap64 (x5 - 1))) else (none)) else (none)) else (some x3)
end
def impl_Padded.f (k : Nat) (l0 : List Int) : Option (List Int) := (slices_Clone_byte_byte.f l0).bind fun t601 => (if t601.length < 140737488355328 then (impl_Padded.l0 k l0 (t601 ++ [128])) else (none))
theorem impl_Padded.mono_l : ∀ k, (∀ y0 y1, LeO (impl_Padded.l0 k y0 y1) (impl_Padded.l0 (k + 1) y0 y1)) ∧ (∀ y0 y1 y2, LeO (impl_Padded.l1 k y0 y1 y2) (impl_Padded.l1 (k + 1) y0 y1 y2))
 | 0 => ⟨fun _ _ r h => by simp [impl_Padded.l0] at h, fun _ _ _ r h => by simp [impl_Padded.l1] at h⟩
 | k + 1 => by
  obtain ⟨ih0, ih1⟩ := impl_Padded.mono_l k
  refine ⟨?_, ?_⟩
  ·intro y0 y1
   unfold impl_Padded.l0
   repeat' (with_reducible first | exact LeO.refl _ | exact LeO.none _ | apply ih0 | apply ih1 | apply LeO.ite | refine LeO.bind ?_ fun _ => ?_)
  ·intro y0 y1 y2
   unfold impl_Padded.l1
   repeat' (with_reducible first | exact LeO.refl _ | exact LeO.none _ | apply ih0 | apply ih1 | apply LeO.ite | refine LeO.bind ?_ fun _ => ?_)
theorem impl_Padded.mono : ∀ a0 k, LeO (impl_Padded.f k a0) (impl_Padded.f (k + 1) a0) := by
 intro a0 k
 obtain ⟨ih0, ih1⟩ := impl_Padded.mono_l k
 unfold impl_Padded.f
 repeat' (with_reducible first | exact LeO.refl _ | exact LeO.none _ | apply ih0 | apply ih1 | apply LeO.ite | refine LeO.bind ?_ fun _ => ?_)
set_option maxHeartbeats 8000000 in
set_option maxRecDepth 100000 in
theorem impl_Padded.calls (k : Nat) (A0 : Option Addr) (c0 : Nat) (l0 : List Int) (r : List Int) (w : World) (hr0 : Kd.C (Kd.int .u8) w A0 l0.length l0) (hc0 : l0.length ≤ c0) (h : impl_Padded.f k l0 = some r) :
  Calls Try.prog 125 #[.slice A0 l0.length c0] w fun e w' => ∃ v0_ : Value, e = .returned (v0_) ∧ Kd.R (Kd.int .u8) 5 w' w.heap.size (fun _ => True) v0_ r ∧ Below w.heap.size w w' := by
 have HR0 := Aside0.mk hr0
 have HC0 := Aside0.mk hc0
 clear hr0 hc0
 have HB := Aside0.mk (Below.refl w.heap.size w)
 have H : ((slices_Clone_byte_byte.f l0).bind fun t601 => (if t601.length < 140737488355328 then (impl_Padded.l0 k l0 (t601 ++ [128])) else (none))) = some r := h
 clear h
 replace H := bi_ H; obtain ⟨t601, A2, H⟩ := H
 replace H := ip_ H; obtain ⟨c3, H⟩ := H
 have LMc3 := Aside0.mk c3
 clear c3
 obtain ⟨y604, hy604⟩ : ∃ y_ : List Int, y_ = (t601 ++ [128]) := ⟨_, rfl⟩
 replace H : (impl_Padded.l0 k l0 y604) = some r := yh_ hy604 H
 have Ny604 := Aside0.mk hy604
 clear hy604
 have H' := Aside0.mk H
 clear H
 go_enter Try.func125, Try.ntmps125
 go_wp2_with (first | ((with_reducible refine gq_ 85 7 ?_); refine gc_ 7 Try.func85 (slices_Clone_byte_byte.calls _ _ l0 t601 _ (cr_ HR0.out) HC0.out A2.out) ?_; rintro e w4 ⟨v602, rfl, ho0, hb⟩; refine ⟨_, rfl, ?_⟩; have HO603 := Aside0.mk (Kd.R_lower ho0 (sz_ HB)); replace HB := ss_ HB hb; clear hb ho0) | ((with_reducible refine gate_builtin (b := .append) (xs := #[.tmp 7, .tmp 8]) rfl ?_); at_builtin; refine Kd.R_append (Kd.int .u8) (w0 := w) w.heap.size rfl (.tmp 7) (.tmp 8) 22 5 (.int .u8 0) 1 rfl Try.underlying22 info5 rfl (by decide) (by omega) v602 t601 128 [.int .u8 128] (fun _ => True) (fun _ => False) rfl rfl ?aP (fun _ hk => hk.elim) ?aF ?aO ?aB ?aS ?aL ?_; (case aP => exact rfl); (case aB => exact (bw_ HB)); (case aF => exact (fun _ _ => trivial)); (case aO => exact (kr_ HO603.out)); (case aS => exact (sz_ HB)); (case aL => have := LMc3.out; omega); intro v605 w5 ho hb hg hat; rw [← Ny604.out] at ho; replace HB := Aside0.mk hb; have HO606 := Aside0.mk ho; clear HO603; clear ho hb hg hat))
 go_loopg [3] k (fun kq v3 w' => ∃ (x3_1 : List Int), Aside0 (impl_Padded.l0 kq l0 x3_1 = some r) ∧ Aside0 (kq ≤ k) ∧ Aside0 (Kd.R (Kd.int .u8) 5 w' w.heap.size (fun _ => True) v3 x3_1) ∧ Aside0 (Below w.heap.size w w'))
 case atStart => exact ⟨(y604), H', ⟨Nat.le_refl _⟩, ⟨kr_ HO606.out⟩, ⟨bw_ HB⟩⟩
 case round =>
  clear H'
  try clear c3
  obtain ⟨x3_1, HA, HK1, HO_3, HB⟩ := hrel
  cases gk with
  | zero => exact absurd HA.out (by simp [impl_Padded.l0])
  | succ k1 =>
   have H := HA.out
   clear HA
   simp only [impl_Padded.l0] at H
   replace H := it_ H; obtain ⟨c6, H⟩ | ⟨c6, H⟩ := H
   ·have c6b0 : ((Int.tmod (wrap64 ((x3_1.length : Int) + 8)) 64) == 0) = true := beq_iff_eq.mpr c6
    have c6b1 : ((Int.tmod (wrap64 ((x3_1.length : Int) + 8)) 64) != 0) = false := bne_eq_false_iff_eq.mpr c6
    clear c6
    have H' := Aside0.mk H
    clear H
    obtain ⟨Ao7, co7, eo7⟩ := Kd.R_slice HO_3.out
    subst eo7
    go_wp2
    go_loopg [3, 5] k1 (fun kq v3 v5 w' => ∃ (x3_2 : List Int) (x5_2 : Int), v5 = .int .i64 x5_2 ∧ Aside0 (impl_Padded.l1 kq x3_2 (wrap64 (8 * (l0.length : Int))) x5_2 = some r) ∧ Aside0 (kq ≤ k1) ∧ Aside0 (Kd.R (Kd.int .u8) 5 w' w.heap.size (fun _ => True) v3 x3_2) ∧ Aside0 (Below w.heap.size w w'))
    case atStart => exact ⟨(x3_1), (7), e1_, H', ⟨Nat.le_refl _⟩, ⟨kr_ HO_3.out⟩, ⟨bw_ HB⟩⟩
    case round =>
     clear H'
     try clear c1
     try clear p2
     try clear c3
     try clear c6
     try clear c6b0
     try clear c6b1
     obtain ⟨x3_2, x5_2, rfl, HA, HK2, HO_3, HB⟩ := hrel
     cases gk with
     | zero => exact absurd HA.out (by simp [impl_Padded.l1])
     | succ k2 =>
      have H := HA.out
      clear HA
      simp only [impl_Padded.l1] at H
      replace H := it_ H; obtain ⟨c8, H⟩ | ⟨c8, H⟩ := H
      ·have c8b0 : decide (0 ≤ x5_2) = true := decide_eq_true c8
       clear c8
       generalize hji9 : (IntKind.u64.wrap (wrap64 (8 * x5_2))) = ji9 at H
       replace H := ip_ H; obtain ⟨c10, H⟩ := H
       have c10b0 := eq_true c10
       have c10b1 := decide_eq_true c10
       clear c10
       generalize hji11 : (shr .i64 (wrap64 (8 * (l0.length : Int))) (ji9)) = ji11 at H
       have hji11_ : ((wrap64 (8 * (l0.length : Int))) / 2 ^ min (ji9).toNat 64) = ji11 := hji11
       have hji11z : (ji9) ≤ 64 → ((wrap64 (8 * (l0.length : Int))) / 2 ^ (ji9).toNat) = ji11 := shr_small hji11
       replace H := ip_ H; obtain ⟨c12, H⟩ := H
       have LMc12 := Aside0.mk c12
       clear c12
       obtain ⟨y610, hy610⟩ : ∃ y_ : List Int, y_ = (x3_2 ++ [(ji11) % 256]) := ⟨_, rfl⟩
       replace H : (impl_Padded.l1 k2 y610 (wrap64 (8 * (l0.length : Int))) (wrap64 (x5_2 - 1))) = some r := yh_ hy610 H
       have Ny610 := Aside0.mk hy610
       clear hy610
       have H' := Aside0.mk H
       clear H
       go_wp2_with (first | ((with_reducible refine gate_builtin (b := .append) (xs := #[.tmp 25, .tmp 32]) rfl ?_); at_builtin; refine Kd.R_append (Kd.int .u8) (w0 := w) w.heap.size rfl (.tmp 25) (.tmp 32) 22 5 (.int .u8 0) 1 rfl Try.underlying22 info5 rfl (by decide) (by omega) u3 x3_2 ((ji11) % 256) [.int .u8 ((ji11) % 256)] (fun _ => True) (fun _ => False) rfl rfl ?aP (fun _ hk => hk.elim) ?aF ?aO ?aB ?aS ?aL ?_; (case aP => exact rfl); (case aB => exact (bw_ HB)); (case aF => exact (fun _ _ => trivial)); (case aO => exact (kr_ HO_3.out)); (case aS => exact (sz_ HB)); (case aL => have := LMc12.out; omega); intro v611 w13 ho hb hg hat; rw [← Ny610.out] at ho; replace HB := Aside0.mk hb; have HO612 := Aside0.mk ho; clear HO_3; clear ho hb hg hat))
       go_roundg k2
       case measure => have := HK1.out; have := HK2.out; omega
       case rel => exact ⟨(y610), (wrap64 (x5_2 - 1)), e1_, H', ⟨by have := HK1.out; have := HK2.out; omega⟩, ⟨kr_ HO612.out⟩, ⟨bw_ HB⟩⟩
      ·have c8b0 : decide (0 ≤ x5_2) = false := decide_eq_false c8
       clear c8
       obtain rfl := Option.some.inj H
       go_wp2
       go_ret
       exact ⟨_, e2_, kr_ HO_3.out, bw_ HB⟩
   ·have c6b0 : ((Int.tmod (wrap64 ((x3_1.length : Int) + 8)) 64) == 0) = false := beq_eq_false_iff_ne.mpr c6
    have c6b1 : ((Int.tmod (wrap64 ((x3_1.length : Int) + 8)) 64) != 0) = true := bne_iff_ne.mpr c6
    replace H := ip_ H; obtain ⟨c14, H⟩ := H
    have LMc14 := Aside0.mk c14
    clear c14
    obtain ⟨y607, hy607⟩ : ∃ y_ : List Int, y_ = (x3_1 ++ [0]) := ⟨_, rfl⟩
    replace H : (impl_Padded.l0 k1 l0 y607) = some r := yh_ hy607 H
    have Ny607 := Aside0.mk hy607
    clear hy607
    have H' := Aside0.mk H
    clear H
    obtain ⟨Ao15, co15, eo15⟩ := Kd.R_slice HO_3.out
    subst eo15
    go_wp2_with (first | ((with_reducible refine gate_builtin (b := .append) (xs := #[.tmp 15, .tmp 16]) rfl ?_); at_builtin; refine Kd.R_append (Kd.int .u8) (w0 := w) w.heap.size rfl (.tmp 15) (.tmp 16) 22 5 (.int .u8 0) 1 rfl Try.underlying22 info5 rfl (by decide) (by omega) (.slice Ao15 x3_1.length co15) x3_1 0 [.int .u8 0] (fun _ => True) (fun _ => False) rfl rfl ?aP (fun _ hk => hk.elim) ?aF ?aO ?aB ?aS ?aL ?_; (case aP => exact rfl); (case aB => exact (bw_ HB)); (case aF => exact (fun _ _ => trivial)); (case aO => exact (kr_ HO_3.out)); (case aS => exact (sz_ HB)); (case aL => have := LMc14.out; omega); intro v608 w16 ho hb hg hat; rw [← Ny607.out] at ho; replace HB := Aside0.mk hb; have HO609 := Aside0.mk ho; clear HO_3; clear ho hb hg hat))
    go_roundg k1
    case measure => have := HK1.out; omega
    case rel => exact ⟨(y607), H', ⟨by have := HK1.out; omega⟩, ⟨kr_ HO609.out⟩, ⟨bw_ HB⟩⟩
end Go.Proofs.Ytjnnglphdaemaaa.Q
end

section
/- Padded, the program's: the bytes, 128, noughts, and how many bits there are in eight bytes. -/
namespace Go.Proofs.Ytjnnglphdaemaaa.Q
open Go.RowKit Go.Proofs.Ytjnnglphdaemaaa.B Go.Proofs.YtjnnglphdaemaaaW.PrintWords Go.Proofs.YtjnnglphdaemaaaW.PrintMore

def zerosOf (n : Nat) : Nat := (119 - n % 64) % 64
def tailBytes (n : Int) : Nat → List Int
  | 0 => []
  | j + 1 => (shr .i64 n (8 * (j : Int))) % 256 :: tailBytes n j
def len8 (n : Int) : List Int := tailBytes n 8
theorem tailBytes_length (n : Int) (j : Nat) : (tailBytes n j).length = j := by
  induction j with
  | zero => rfl
  | succ j ih => simp [tailBytes, ih]
def padL (l : List Int) : List Int := l ++ [128] ++ List.replicate (zerosOf l.length) 0 ++ len8 (8 * l.length)
theorem padL_length (l : List Int) : (padL l).length % 64 = 0 := by
  simp [padL, len8, tailBytes_length, zerosOf]
  omega
theorem padL_size (l : List Int) : (padL l).length ≤ l.length + 72 := by
  simp [padL, len8, tailBytes_length, zerosOf]
  omega

theorem u64_eight (j : Nat) (hj : j ≤ 7) : IntKind.u64.wrap (wrap64 (8 * (j : Int))) = 8 * (j : Int) := by
  rw [w64 (by omega) (by omega), IntWalk.u64_in _ ⟨by omega, by omega⟩]

theorem padded_l1 (n : Int) : ∀ (j : Nat) (acc : List Int), j ≤ 8 → acc.length + j ≤ 140737488355320 → Ev (fun k => impl_Padded.l1 k acc n ((j : Int) - 1)) (acc ++ tailBytes n j) := by
  intro j
  induction j with
  | zero =>
    intro acc _ _
    refine Ev.step (f := fun _ => some acc) (fun k => ?_) (Ev.one (Ev.now _) (by simp [tailBytes]))
    simp only [impl_Padded.l1]
    rw [if_neg (by omega)]
  | succ j ih =>
    intro acc h1 h2
    refine Ev.step (fun k => ?_) (Ev.one (ih (acc ++ [(shr .i64 n (8 * (j : Int))) % 256]) (by omega) (by simp; omega)) (by simp [tailBytes]))
    simp only [impl_Padded.l1]
    have hj : (((j + 1 : Nat) : Int) - 1) = (j : Int) := by omega
    rw [hj, if_pos (by omega), u64_eight j (by omega), if_pos (by omega), if_pos (by omega), w64 (by omega) (by omega)]

theorem padded_l0 (l : List Int) (hl : l.length ≤ 1099511627776) : ∀ (d i : Nat) (acc : List Int), i + d = zerosOf l.length → acc = l ++ [128] ++ List.replicate i 0 → Ev (fun k => impl_Padded.l0 k l acc) (padL l) := by
  intro d
  induction d with
  | zero =>
    intro i acc hi ha
    have hlen : acc.length = l.length + 1 + i := by rw [ha]; simp; omega
    have hz : zerosOf l.length = (119 - l.length % 64) % 64 := rfl
    refine Ev.step (fun k => ?_) (Ev.one (padded_l1 (8 * (l.length : Int)) 8 acc (by omega) (by omega)) ?_)
    · simp only [impl_Padded.l0]
      rw [w64 (by omega) (by omega), Int.tmod_eq_emod_of_nonneg (by omega), if_pos (by omega), w64 (by omega) (by omega)]
      rfl
    · rw [ha, show i = zerosOf l.length from by omega]
      rfl
  | succ d ih =>
    intro i acc hi ha
    have hlen : acc.length = l.length + 1 + i := by rw [ha]; simp; omega
    have hz : zerosOf l.length = (119 - l.length % 64) % 64 := rfl
    refine Ev.step (fun k => ?_) (ih (i + 1) (acc ++ [0]) (by omega) (by rw [ha, List.append_assoc (l ++ [128])]; congr 1; rw [List.replicate_succ']))
    simp only [impl_Padded.l0]
    rw [w64 (by omega) (by omega), Int.tmod_eq_emod_of_nonneg (by omega), if_neg (by omega), if_pos (by omega)]

theorem impl_Padded_ev (l : List Int) (hl : l.length ≤ 1099511627776) : Ev (fun k => impl_Padded.f k l) (padL l) := by
  refine Ev.congr (fun k => ?_) (padded_l0 l hl (zerosOf l.length) 0 (l ++ [128]) (by omega) (by simp))
  unfold impl_Padded.f slices_Clone_byte_byte.f
  rw [if_pos (by omega)]
  simp only [Option.bind_some]
  rw [if_pos (by omega)]
end Go.Proofs.Ytjnnglphdaemaaa.Q
end

section
/- impl.rounds, and what impl.Digest comes to: the fold of the turned blocks of the padded bytes, as 32 bytes. -/
namespace Go.Proofs.Ytjnnglphdaemaaa.Q
open Go.RowKit Go.Shelf Go.Proofs.YtjnnglphdaemaaaW.PrintWords Go.Proofs.YtjnnglphdaemaaaW.PrintLast Go.Proofs.YtjnnglphdaemaaaW.PrintMore
set_option linter.unusedVariables false
set_option linter.unusedSimpArgs false

def shaK : List Int := [1116352408, 1899447441, 3049323471, 3921009573, 961987163, 1508970993, 2453635748, 2870763221, 3624381080, 310598401, 607225278, 1426881987, 1925078388, 2162078206, 2614888103, 3248222580, 3835390401, 4022224774, 264347078, 604807628, 770255983, 1249150122, 1555081692, 1996064986, 2554220882, 2821834349, 2952996808, 3210313671, 3336571891, 3584528711, 113926993, 338241895, 666307205, 773529912, 1294757372, 1396182291, 1695183700, 1986661051, 2177026350, 2456956037, 2730485921, 2820302411, 3259730800, 3345764771, 3516065817, 3600352804, 4094571909, 275423344, 430227734, 506948616, 659060556, 883997877, 958139571, 1322822218, 1537002063, 1747873779, 1955562222, 2024104815, 2227730452, 2361852424, 2428436474, 2756734187, 3204031479, 3329325298]
def shaH : List Int := [1779033703, 3144134277, 1013904242, 2773480762, 1359893119, 2600822924, 528734635, 1541459225]
def blockAt (p : List Int) (x : Nat) : List Int := (p.drop x).take 64
def foldAt (p : List Int) (xs : List Nat) : List Int := xs.foldl (fun h x => turned shaK (blockAt p x) h) shaH
theorem foldAt_snoc (p : List Int) (xs : List Nat) (x : Nat) : foldAt p (xs ++ [x]) = turned shaK (blockAt p x) (foldAt p xs) := by simp [foldAt]
theorem turned_length (ks bs hs : List Int) : (turned ks bs hs).length = hs.length := addAt_length _ _ _
theorem foldAt_length (p : List Int) (xs : List Nat) : (foldAt p xs).length = 8 := by
  have main : ∀ (xs : List Nat) (h : List Int), h.length = 8 → (xs.foldl (fun h x => turned shaK (blockAt p x) h) h).length = 8 := by
    intro xs
    induction xs with
    | nil => exact fun h hh => hh
    | cons x xs ih => exact fun h hh => ih _ (by rw [turned_length]; exact hh)
  exact main xs shaH rfl
def wordBytes (x : Int) : List Int := [x / 16777216 % 256, x / 65536 % 256, x / 256 % 256, x % 256]
def outBytes (hs : List Int) (k : Nat) : List Int := (hs.take k).flatMap wordBytes
def shaBytes (l : List Int) : List Int := outBytes (foldAt (padL l) (starts ((padL l).length / 64))) 8
def sha (l : List Int) : ByteArray := strOfNums (shaBytes l)
def impl_Digest.f (l : List Int) : Option (ByteArray) := if l.length ≤ 1099511627776 then some (sha l) else none

set_option maxHeartbeats 2000000 in
set_option maxRecDepth 100000 in
theorem rounds_calls (w : World) : Calls Try.prog 123 #[] w fun e w' => ∃ g, e = .returned (.pointer (some ⟨g, 0, none⟩)) ∧ w.heap.size ≤ g ∧ w'.heap[g]? = some (.cells (arrU shaK) 155 (0, 0)) ∧ Below w.heap.size w w' := by
  go_enter Try.func123, Try.ntmps123
  go_wp2
  go_ret
  exact ⟨_, rfl, Nat.le_refl _, blk_new w _, (Below.refl _ _).alloc (Nat.le_refl _) _⟩

theorem sub_reads {w : World} {b n : Nat} {xs : List Int} (h : Kd.C (Kd.int .u8) w (some ⟨b, 0, none⟩) n xs) (x : Nat) (hx : x + 64 ≤ n) : Kd.C (Kd.int .u8) w (some ⟨b, 0 + x, none⟩) (blockAt xs x).length (blockAt xs x) ∧ (blockAt xs x).length = 64 := by
  have hl := h.1
  have h64 : (blockAt xs x).length = 64 := by simp [blockAt]; omega
  obtain ⟨ad, he, hby⟩ := bytes_at h (by omega)
  obtain rfl := (Option.some.inj he).symm
  refine ⟨⟨rfl, by omega, fun _ => ⟨_, rfl, fun j p hj => ⟨[.int .u8 p], rfl, rfl, fun i u hu => ?_⟩⟩⟩, h64⟩
  have hj64 : j < 64 := by rw [← h64]; exact (List.getElem?_eq_some_iff.1 hj).1
  have hi0 : i = 0 := by
    rcases Nat.eq_zero_or_pos i with hz | hz
    · exact hz
    · rw [List.getElem?_eq_none (by simp; omega)] at hu
      cases hu
  subst hi0
  have hu2 : u = .int .u8 p := by simpa using hu.symm
  have hp : xs[x + j]? = some p := by
    rw [blockAt, List.getElem?_take, if_pos hj64, List.getElem?_drop] at hj
    exact hj
  have := hby.2 (x + j) (by omega)
  rw [hu2]
  have hrd : rd xs ((x + j : Nat) : Int) = p := by unfold rd; rw [Int.toNat_natCast]; simp [List.getD_eq_getElem?_getD, hp]
  rw [hrd] at this
  have haddr : (⟨b, 0 + x, none⟩ : Addr).add (j * (Kd.int .u8).sz + 0) = (⟨b, 0, none⟩ : Addr).add (x + j) := by
    rw [show (Kd.int .u8).sz = 1 from rfl, Nat.mul_one, Nat.add_zero]
    unfold Addr.add
    by_cases hj0 : j = 0
    · by_cases hxx : x = 0
      · simp [hj0, hxx]
      · simp [hj0, hxx]
    · simp [hj0]
  rw [haddr]
  exact this
end Go.Proofs.Ytjnnglphdaemaaa.Q
end

section
-- Written by a program of this session (wip/tools/pp.sh) over the print of the kit.
namespace Go.Proofs.Ytjnnglphdaemaaa.Q
open Go.RowKit Go.Proofs.YtjnnglphdaemaaaW.PrintWords Go.Proofs.YtjnnglphdaemaaaW.PrintLast Go.Proofs.YtjnnglphdaemaaaW.PrintMore
attribute [local go_sem] max2_int min2_int max_two min_two max_three min_three max_four min_four   -- for this text's walks alone
set_option linter.unusedVariables false
set_option linter.unusedSimpArgs false
end Go.Proofs.Ytjnnglphdaemaaa.Q
end

section
-- Written by a program of this session (wip/tools/pp.sh) over the print of the kit.
namespace Go.Proofs.Ytjnnglphdaemaaa.Q
open Go.RowKit Go.Proofs.YtjnnglphdaemaaaW.PrintWords Go.Proofs.YtjnnglphdaemaaaW.PrintLast Go.Proofs.YtjnnglphdaemaaaW.PrintMore
attribute [local go_sem] max2_int min2_int max_two min_two max_three min_three max_four min_four   -- for this text's walks alone
set_option linter.unusedVariables false
set_option linter.unusedSimpArgs false
end Go.Proofs.Ytjnnglphdaemaaa.Q
end

section
-- Written by a program of this session (wip/tools/pp.sh) over the print of the kit.
namespace Go.Proofs.Ytjnnglphdaemaaa.Q
open Go.RowKit Go.Proofs.YtjnnglphdaemaaaW.PrintWords Go.Proofs.YtjnnglphdaemaaaW.PrintLast Go.Proofs.YtjnnglphdaemaaaW.PrintMore
attribute [local go_sem] max2_int min2_int max_two min_two max_three min_three max_four min_four   -- for this text's walks alone
set_option linter.unusedVariables false
set_option linter.unusedSimpArgs false
end Go.Proofs.Ytjnnglphdaemaaa.Q
end

section
-- Written by a program of this session (wip/tools/pp.sh) over the print of the kit.
namespace Go.Proofs.Ytjnnglphdaemaaa.Q
open Go.RowKit Go.Proofs.YtjnnglphdaemaaaW.PrintWords Go.Proofs.YtjnnglphdaemaaaW.PrintLast Go.Proofs.YtjnnglphdaemaaaW.PrintMore
attribute [local go_sem] max2_int min2_int max_two min_two max_three min_three max_four min_four   -- for this text's walks alone
set_option linter.unusedVariables false
set_option linter.unusedSimpArgs false
end Go.Proofs.Ytjnnglphdaemaaa.Q
end

section
-- Written by a program of this session (wip/tools/pp.sh) over the print of the kit.
namespace Go.Proofs.Ytjnnglphdaemaaa.Q
open Go.RowKit Go.Proofs.YtjnnglphdaemaaaW.PrintWords Go.Proofs.YtjnnglphdaemaaaW.PrintLast Go.Proofs.YtjnnglphdaemaaaW.PrintMore
attribute [local go_sem] max2_int min2_int max_two min_two max_three min_three max_four min_four   -- for this text's walks alone
set_option linter.unusedVariables false
set_option linter.unusedSimpArgs false
end Go.Proofs.Ytjnnglphdaemaaa.Q
end

section
-- Written by a program of this session (wip/tools/pp.sh) over the print of the kit.
namespace Go.Proofs.Ytjnnglphdaemaaa.Q
open Go.RowKit Go.Proofs.YtjnnglphdaemaaaW.PrintWords Go.Proofs.YtjnnglphdaemaaaW.PrintLast Go.Proofs.YtjnnglphdaemaaaW.PrintMore
attribute [local go_sem] max2_int min2_int max_two min_two max_three min_three max_four min_four   -- for this text's walks alone
set_option linter.unusedVariables false
set_option linter.unusedSimpArgs false
end Go.Proofs.Ytjnnglphdaemaaa.Q
end

section
/- spec.Digest comes to what impl.Digest comes to: whole numbers under masks against words of 32 bits. Plain. -/
namespace Go.Proofs.Ytjnnglphdaemaaa.Q
open Go.RowKit Go.Proofs.Ytjnnglphdaemaaa.B Go.Proofs.YtjnnglphdaemaaaW.PrintWords Go.Proofs.YtjnnglphdaemaaaW.PrintMore
set_option linter.unusedVariables false
set_option linter.unusedSimpArgs false

def U (x : Int) : Prop := 0 ≤ x ∧ x < 4294967296
theorem wraps63 (n : Int) (h₀ : 0 ≤ n) (h₁ : n < 2 ^ 63) : IntKind.i64.wrap n = n := by rw [IntKind.wrap_i64]; omega
theorem outBytes_succ (hs : List Int) (i : Nat) (h : i < hs.length) : outBytes hs (i + 1) = outBytes hs i ++ wordBytes (hs.getD i 0) := by
  unfold outBytes
  have hx : hs[i]? = some (hs.getD i 0) := by simp [List.getD_eq_getElem?_getD, h]
  rw [take_one hx, List.flatMap_append]
  simp
theorem wordBytes_length (x : Int) : (wordBytes x).length = 4 := rfl
theorem outBytes_length (hs : List Int) (i : Nat) (h : i ≤ hs.length) : (outBytes hs i).length = 4 * i := by
  induction i with
  | zero => simp [outBytes]
  | succ i ih =>
    rw [outBytes_succ hs i h, List.length_append, ih (by omega), wordBytes_length]
    omega
theorem impl_Digest_is (l : List Int) (hl : l.length ≤ 1099511627776) : impl_Digest.f l = some (sha l) := if_pos hl
theorem sha_size (l : List Int) : (sha l).size = 32 := by
  unfold sha shaBytes
  have := outBytes_length (foldAt (padL l) (starts ((padL l).length / 64))) 8 (by rw [foldAt_length]; exact Nat.le_refl _)
  show ((outBytes (foldAt (padL l) (starts ((padL l).length / 64))) 8).map fun n => UInt8.ofNat n.toNat).toArray.size = 32
  simp [this]
end Go.Proofs.Ytjnnglphdaemaaa.Q
end

section
/- impl.Digest: the fold of the turned blocks of the padded bytes, as 32 bytes; for texts of at most 2 to the 40th bytes. -/
namespace Go.Proofs.Ytjnnglphdaemaaa.Q
open Go.RowKit Go.Shelf Go.Proofs.YtjnnglphdaemaaaW.PrintWords Go.Proofs.YtjnnglphdaemaaaW.PrintLast Go.Proofs.YtjnnglphdaemaaaW.PrintMore
set_option linter.unusedVariables false
set_option linter.unusedSimpArgs false

theorem C_at {w W : World} {g n : Nat} {xs : List Int} (h : Kd.C (Kd.int .u8) w (some ⟨g, 0, none⟩) n xs) (hb : W.heap[g]? = w.heap[g]?) : Kd.C (Kd.int .u8) W (some ⟨g, 0, none⟩) n xs := by
  refine ⟨h.1, h.2.1, fun hp => ?_⟩
  obtain ⟨ad, he, f⟩ := h.2.2 hp
  obtain rfl := (Option.some.inj he).symm
  refine ⟨_, he, fun j p hj => ?_⟩
  obtain ⟨cs, h1, h2, h3⟩ := f j p hj
  refine ⟨cs, h1, h2, fun i u hu => ?_⟩
  have h4 := h3 i u hu
  have ha : ((⟨g, 0, none⟩ : Addr).add (j * (Kd.int .u8).sz + i)).block = g := by
    unfold Addr.add
    split <;> rfl
  rw [World.cell?_of_block (w := w) (w' := W) (by rw [ha]; exact hb)]
  exact h4

set_option maxRecDepth 100000 in
@[local go_sem] theorem run_index_h0 (v0 v1 v2 v3 v4 v5 v6 v7 : Int) (w : World) : (Instr.index 139 (.agg #[.int .u32 v0, .int .u32 v1, .int .u32 v2, .int .u32 v3, .int .u32 v4, .int .u32 v5, .int .u32 v6, .int .u32 v7]) (.int .i64 0)).run Try.prog w = .ok (.int .u32 v0) w := by
  simp [Instr.index, asIntOf, run_underlying Try.underlying139, go_sem]
set_option maxRecDepth 100000 in
@[local go_sem] theorem run_index_h1 (v0 v1 v2 v3 v4 v5 v6 v7 : Int) (w : World) : (Instr.index 139 (.agg #[.int .u32 v0, .int .u32 v1, .int .u32 v2, .int .u32 v3, .int .u32 v4, .int .u32 v5, .int .u32 v6, .int .u32 v7]) (.int .i64 1)).run Try.prog w = .ok (.int .u32 v1) w := by
  simp [Instr.index, asIntOf, run_underlying Try.underlying139, go_sem]
set_option maxRecDepth 100000 in
@[local go_sem] theorem run_index_h2 (v0 v1 v2 v3 v4 v5 v6 v7 : Int) (w : World) : (Instr.index 139 (.agg #[.int .u32 v0, .int .u32 v1, .int .u32 v2, .int .u32 v3, .int .u32 v4, .int .u32 v5, .int .u32 v6, .int .u32 v7]) (.int .i64 2)).run Try.prog w = .ok (.int .u32 v2) w := by
  simp [Instr.index, asIntOf, run_underlying Try.underlying139, go_sem]
set_option maxRecDepth 100000 in
@[local go_sem] theorem run_index_h3 (v0 v1 v2 v3 v4 v5 v6 v7 : Int) (w : World) : (Instr.index 139 (.agg #[.int .u32 v0, .int .u32 v1, .int .u32 v2, .int .u32 v3, .int .u32 v4, .int .u32 v5, .int .u32 v6, .int .u32 v7]) (.int .i64 3)).run Try.prog w = .ok (.int .u32 v3) w := by
  simp [Instr.index, asIntOf, run_underlying Try.underlying139, go_sem]
set_option maxRecDepth 100000 in
@[local go_sem] theorem run_index_h4 (v0 v1 v2 v3 v4 v5 v6 v7 : Int) (w : World) : (Instr.index 139 (.agg #[.int .u32 v0, .int .u32 v1, .int .u32 v2, .int .u32 v3, .int .u32 v4, .int .u32 v5, .int .u32 v6, .int .u32 v7]) (.int .i64 4)).run Try.prog w = .ok (.int .u32 v4) w := by
  simp [Instr.index, asIntOf, run_underlying Try.underlying139, go_sem]
set_option maxRecDepth 100000 in
@[local go_sem] theorem run_index_h5 (v0 v1 v2 v3 v4 v5 v6 v7 : Int) (w : World) : (Instr.index 139 (.agg #[.int .u32 v0, .int .u32 v1, .int .u32 v2, .int .u32 v3, .int .u32 v4, .int .u32 v5, .int .u32 v6, .int .u32 v7]) (.int .i64 5)).run Try.prog w = .ok (.int .u32 v5) w := by
  simp [Instr.index, asIntOf, run_underlying Try.underlying139, go_sem]
set_option maxRecDepth 100000 in
@[local go_sem] theorem run_index_h6 (v0 v1 v2 v3 v4 v5 v6 v7 : Int) (w : World) : (Instr.index 139 (.agg #[.int .u32 v0, .int .u32 v1, .int .u32 v2, .int .u32 v3, .int .u32 v4, .int .u32 v5, .int .u32 v6, .int .u32 v7]) (.int .i64 6)).run Try.prog w = .ok (.int .u32 v6) w := by
  simp [Instr.index, asIntOf, run_underlying Try.underlying139, go_sem]
set_option maxRecDepth 100000 in
@[local go_sem] theorem run_index_h7 (v0 v1 v2 v3 v4 v5 v6 v7 : Int) (w : World) : (Instr.index 139 (.agg #[.int .u32 v0, .int .u32 v1, .int .u32 v2, .int .u32 v3, .int .u32 v4, .int .u32 v5, .int .u32 v6, .int .u32 v7]) (.int .i64 7)).run Try.prog w = .ok (.int .u32 v7) w := by
  simp [Instr.index, asIntOf, run_underlying Try.underlying139, go_sem]
theorem xd_blk {A B : World} {row : Option Nat} {b n : Nat} {cs : Array Value} {T : TypeId} (h : A.heap[n]? = some (.cells cs T (0, 0))) (hg : A.grownBy B row) (hr : ∀ r, row = some r → b ≤ r ∧ ∃ o : Obj, A.heap[r]? = some o ∧ o.isCells = false) : B.heap[n]? = some (.cells cs T (0, 0)) := by
  rw [hg.block n (blk_lt h) (fun e => ?_)]
  · exact h
  · obtain ⟨_, o, ho, hc⟩ := hr n e.symm
    rw [h] at ho
    cases ho
    cases hc

/-- The block that is turned: 64 bytes at x, of a row that lies at g. -/
theorem turn64 {g : Nat} (gh gk x : Nat) (p hs : List Int) (w : World) (hC : Kd.C (Kd.int .u8) w (some ⟨g, 0, none⟩) p.length p) (hx : x + 64 ≤ p.length) (hh : hs.length = 8)
    (hgh : w.heap[gh]? = some (.cells (arrU hs) 139 (0, 0))) (hgk : w.heap[gk]? = some (.cells (arrU shaK) 155 (0, 0))) :
    Calls Try.prog 126 #[.pointer (some ⟨gh, 0, none⟩), .slice (some ⟨g, x, none⟩) 64 64, .pointer (some ⟨gk, 0, none⟩)] w fun e w' => e = .returned (.tuple #[]) ∧ w.grownBy w' (some gh) ∧ w'.heap[gh]? = some (.cells (arrU (turned shaK (blockAt p x) hs)) 139 (0, 0)) := by
  obtain ⟨h1, h2⟩ := sub_reads hC x hx
  have := turnBlock_calls gh gk (some ⟨g, 0 + x, none⟩) 64 (blockAt p x) hs shaK w h1 h2 hh rfl hgh hgk
  rw [h2, Nat.zero_add] at this
  exact this

set_option maxHeartbeats 4000000 in
set_option maxRecDepth 100000 in
theorem impl_Digest.calls (A0 : Option Addr) (c0 : Nat) (l0 : List Int) (r : ByteArray) (w : World) (hr0 : Kd.C (Kd.int .u8) w A0 l0.length l0) (hc0 : l0.length ≤ c0) (h : impl_Digest.f l0 = some r) :
    Calls Try.prog 101 #[.slice A0 l0.length c0] w fun e w' => e = .returned (.string r) ∧ Below w.heap.size w w' := by
  unfold impl_Digest.f at h
  by_cases hl : l0.length ≤ 1099511627776
  · rw [if_pos hl] at h
    obtain rfl := Option.some.inj h
    clear h
    obtain ⟨kp, hkp⟩ := Ev.rounds (impl_Padded_ev l0 hl)
    have HP := Aside0.mk hkp
    have HR := Aside0.mk hr0
    have HC := Aside0.mk hc0
    have HLL := Aside0.mk hl
    clear hkp hr0 hc0 hl
    refine (callsIn_wide (n := 3)).1 ?_
    refine callsIn_of_wp_marks Try.func101 rfl trivial ?_ rfl
    refine wpIn_wide.2 ?_
    simp only [Try.ntmps101, List.size_toArray, List.length_cons, List.length_nil, Nat.reduceAdd, Nat.reduceSub, Array.replicate_succ, Array.replicate_zero, List.push_toArray, List.append_toArray, List.nil_append, List.cons_append]
    go_wp2_with (go_at_call 123; (with_reducible refine (rounds_calls _).mono ?_); rintro e w1 ⟨gk, rfl, hk1, hk2, hb1⟩; have HK1 := Aside0.mk hk1; have HK2 := Aside0.mk hk2; have HB1 := Aside0.mk hb1; clear hk1 hk2 hb1)
    have HH1 := Aside0.mk (blk_below (blk_new w _) HB1.out)
    have HB2 := Aside0.mk (show Below w.heap.size w (w1.alloc (.cells #[.pointer (some ⟨gk, 0, none⟩)] 140)) from ((((Below.refl _ _).alloc (Nat.le_refl _) _).trans (HB1.out.mono (by simp))).alloc (by have := HB1.out.size; simp at this; omega) _))
    have HH2 := Aside0.mk (blk_alloc HH1.out (.cells #[.pointer (some ⟨gk, 0, none⟩)] 140))
    have HK3 := Aside0.mk (blk_alloc HK2.out (.cells #[.pointer (some ⟨gk, 0, none⟩)] 140))
    have HP2 := Aside0.mk (blk_new w1 (.cells #[.pointer (some ⟨gk, 0, none⟩)] 140))
    obtain ⟨gh, hgh⟩ : ∃ gh, w.heap.size = gh := ⟨_, rfl⟩
    obtain ⟨gb, hgb⟩ : ∃ gb, w1.heap.size = gb := ⟨_, rfl⟩
    have HGH := Aside0.mk hgh
    rw [hgh] at HH2
    rw [hgb] at HP2
    simp only [hgh, hgb]
    clear hgh hgb HH1 HK2 HK1
    generalize w1.alloc (.cells #[.pointer (some ⟨gk, 0, none⟩)] 140) = w2 at HB2 HH2 HK3 HP2 ⊢
    with_reducible refine (impl_Padded.calls kp _ _ l0 (padL l0) _ (Kd.C_below HR.out HB2.out) HC.out HP.out).mono ?_
    rintro e w3 ⟨vp, rfl, ho, hb3⟩
    have hplen := padL_length l0
    have hpsz := padL_size l0
    have hpp : 0 < (padL l0).length := by simp [padL]; omega
    obtain ⟨g, cap, rfl, hg1, hg2, cs0, hcs0⟩ := Kd.R_form ho hpp
    obtain ⟨_, hcap, hC⟩ := Kd.R_reads' ho
    have HO := Aside0.mk hC
    have HCS := Aside0.mk hcs0
    have HB3 := Aside0.mk (HB2.out.trans (hb3.mono HB2.out.size))
    have HH3 := Aside0.mk (blk_below HH2.out hb3)
    have HK4 := Aside0.mk (blk_below HK3.out hb3)
    have HP3 := Aside0.mk (blk_below HP2.out hb3)
    have HSZ := Aside0.mk hb3.size
    have HG := Aside0.mk (And.intro hg1 hg2)
    have HN := Aside0.mk (And.intro hplen (And.intro hpsz hcap))
    clear ho hb3 hg1 hg2 hcs0 hC hcap hplen hpsz hpp
    clear HB2 HH2 HK3 HP2
    go_wp2_with (go_at_call 124; (refine (callsIn_wide.1 (chunk_in Fence.wide 1 trivial rfl _ _ _ _)).mono ?_); rintro e w4 ⟨rfl, rfl⟩)
    rename_i hKz _
    have HKz := Aside0.mk hKz
    clear hKz
    obtain ⟨w4, hw4⟩ : ∃ w4, (w3.alloc (.cells #[.slice (some ⟨g, 0, none⟩) (padL l0).length cap] 22)).alloc (.cells #[.int .i64 64] 3) = w4 := ⟨_, rfl⟩
    have hb4 : Below w3.heap.size w3 w4 := by rw [← hw4]; exact ((Below.refl _ _).alloc (Nat.le_refl _) _).alloc (by simp) _
    have hsz4 : w4.heap.size = w3.heap.size + 2 := by rw [← hw4]; simp
    have HBs : w4.cell? ⟨w3.heap.size, 0, none⟩ = some (.slice (some ⟨g, 0, none⟩) (padL l0).length cap) := by
      rw [← hw4]
      simp
    have HBn : w4.cell? ⟨w3.heap.size + 1, 0, none⟩ = some (.int .i64 64) := by
      rw [← hw4]
      simp
    have hC4 := Kd.C_below HO.out hb4
    have hcs4 := blk_below HCS.out hb4
    have hgh4 := blk_below HH3.out hb4
    have hgk4 := blk_below HK4.out hb4
    have hgb4 := blk_below HP3.out hb4
    have hB4 : Below w.heap.size w w4 := HB3.out.trans (hb4.mono HB3.out.size)
    rw [hw4]
    clear hw4
    have hN := HN.out
    have hm : (padL l0).length = 64 * ((padL l0).length / 64) := by omega
    refine (wpIn_wide (n := 3)).1 ?_
    refine wpIn_rangeFunc_ownF rfl (by omega) (gf := 140) (lb := #[.pointer (some ⟨w3.heap.size, 0, none⟩), .pointer (some ⟨w3.heap.size + 1, 0, none⟩)]) rfl trivial (enters_of Try.func140 (by kernel_rfl) rfl)
      (chunk_stops Fence.wide _ trivial rfl (by omega) w3.heap.size (w3.heap.size + 1) w4.heap.size gh g 0 cap ((padL l0).length / 64) (padL l0).length hm hN.2.2 (by have := HLL.out; omega) (by have := blk_lt hcs4; omega) (by omega) (by omega) (by have := blk_lt HH3.out; omega) (by have := blk_lt HH3.out; omega) w4 (Nat.le_refl _) HBs HBn)
      BelowBut.trans (BelowBut.putObj (Nat.le_refl _)) (Below.refl _ _) (fun _ => rfl)
      (fun pre W => (Aside0 (W.heap[gh]? = some (.cells (arrU (foldAt (padL l0) (pre.map (·.1)))) 139 (0, 0))) ∧ Aside0 (W.heap[gk]? = some (.cells (arrU shaK) 155 (0, 0))) ∧ Aside0 (W.heap[gb]? = some (.cells #[.pointer (some ⟨gk, 0, none⟩)] 140 (0, 0))) ∧ Aside0 (W.heap[g]? = some (.cells cs0 5 (0, 0))) ∧ Aside0 (w4.heap.size ≤ W.heap.size)) ∧ Below w.heap.size w W)
      (fun _ _ _ => False)
      ?own (fun c => ?ownx) ?h0
      (fun x => { tmps := #[Value.slice A0 l0.length c0, undef, .string ⟨#[]⟩, .pointer (some ⟨gh, 0, none⟩), .pointer (some ⟨gb, 0, none⟩), Value.slice (some ⟨g, x.1, none⟩) 64 64, undef, undef, undef, .agg #[.int .u32 1779033703, .int .u32 3144134277, .int .u32 1013904242, .int .u32 2773480762, .int .u32 1359893119, .int .u32 2600822924, .int .u32 528734635, .int .u32 1541459225], .pointer (some ⟨gk, 0, none⟩), .slice A0 l0.length c0, .slice (some ⟨g, 0, none⟩) (padL l0).length cap, .func (.func 140) #[] #[.pointer (some ⟨w3.heap.size, 0, none⟩), .pointer (some ⟨w3.heap.size + 1, 0, none⟩)], Value.slice (some ⟨g, x.1, none⟩) 64 64, undef, undef, undef, undef, undef, undef, undef, undef, undef, undef, undef, undef, undef, undef, undef, undef, undef, undef, undef, undef, undef, undef, undef, undef], defers := [] }) ?assign ?body ?done ?stop
    case assign =>
      intro l x W K hK
      clear hm hN
      gi_wp2_with (rw [Oper.semAt_eq _ _ _ (fun c h => by cases h)]; go_simp; try go_bits)
      exact hK
    case body =>
      rintro l pre x W ⟨⟨hh, hk, hb, hc, hs⟩, hB⟩ _
      clear hm hN
      have cb : W.cell? ⟨gb, 0, none⟩ = some (.pointer (some ⟨gk, 0, none⟩)) := blk_cell hb.out 0
      have hcx : Kd.C (Kd.int .u8) W (some ⟨g, 0, none⟩) (padL l0).length (padL l0) := C_at hC4 (hc.out.trans hcs4.symm)
      have HCX := Aside0.mk hcx
      clear hcx hC4
      gi_wp2_with (rw [Oper.semAt_eq _ _ _ (fun c h => by cases h)]; go_simp; try go_bits)
      refine ⟨trivial, ?_⟩
      have HT := turn64 (g := g) gh gk x.1 (padL l0) (foldAt (padL l0) (pre.map (·.1))) W HCX.out x.2 (foldAt_length _ _) hh.out hk.out
      refine CallsIn.mono (CallsIn.inRound l (callsIn_wide.2 HT)) ?_
      rintro e W' ⟨rfl, hg', hn'⟩
      gi_wp2
      have hb0 : BelowBut w4.heap.size gh W W' := BelowBut.grown hg' hs.out
      have hsz := hs.out
      have hl1 := blk_lt hgk4
      have hl2 := blk_lt hgb4
      have hl3 := blk_lt hcs4
      have n1 : gk ≠ gh := blk_ne hk.out hh.out (by decide)
      have n2 : gb ≠ gh := blk_ne hb.out hh.out (by decide)
      have n3 : g ≠ gh := blk_ne hc.out hh.out (by decide)
      refine ⟨KeepsOthers.of_grownBy hg' (fun j o hj ho => by cases hj; rw [hh.out] at ho; cases ho; rfl), hb0, ⟨⟨?_⟩, ⟨?_⟩, ⟨?_⟩, ⟨?_⟩, ⟨?_⟩⟩, ?_⟩
      · rw [List.map_append, List.map_cons, List.map_nil, foldAt_snoc]
        exact hn'
      · exact (hb0.block gk hl1 n1).trans hk.out
      · exact (hb0.block gb hl2 n2).trans hb.out
      · exact (hb0.block g hl3 n3).trans hc.out
      · exact Nat.le_trans hsz hb0.size
      · exact hB.grown hg' (Nat.le_trans hB4.size hsz) (fun k e => by cases e; have := HGH.out; omega)
    case own =>
      refine OwnFrom.and (fun s A B row hs hg hr => ⟨⟨xd_blk hs.1.out hg hr⟩, ⟨xd_blk hs.2.1.out hg hr⟩, ⟨xd_blk hs.2.2.1.out hg hr⟩, ⟨xd_blk hs.2.2.2.1.out hg hr⟩, ⟨Nat.le_trans hs.2.2.2.2.out hg.size⟩⟩) (ownFrom_below (Nat.le_refl _) hB4.size)
    case ownx => exact fun s A B row hs hg hr => hs
    case h0 => exact ⟨⟨⟨hgh4⟩, ⟨hgk4⟩, ⟨hgb4⟩, ⟨hcs4⟩, ⟨Nat.le_refl _⟩⟩, hB4⟩
    case stop => exact fun D c pre W _ _ hx => hx.elim
    case done =>
      rintro D xs W hD hS ⟨⟨hh, _, _, _, hs⟩, hB⟩ hK
      clear hm hN hC4 hcs4 hgh4 hgk4 hgb4 hB4 HBs HBn
      refine HKz.out _ _ ?_
      clear HKz
      obtain ⟨v0, v1, v2, v3, v4, v5, v6, v7, hv⟩ := eight (foldAt_length (padL l0) (starts ((padL l0).length / 64)))
      rw [hS, hv] at hh
      have c0 : W.cell? ⟨gh, 0, none⟩ = some (.int .u32 v0) := blk_cell hh.out 0
      have c1 : W.cell? ⟨gh, 1, none⟩ = some (.int .u32 v1) := blk_cell hh.out 1
      have c2 : W.cell? ⟨gh, 2, none⟩ = some (.int .u32 v2) := blk_cell hh.out 2
      have c3 : W.cell? ⟨gh, 3, none⟩ = some (.int .u32 v3) := blk_cell hh.out 3
      have c4 : W.cell? ⟨gh, 4, none⟩ = some (.int .u32 v4) := blk_cell hh.out 4
      have c5 : W.cell? ⟨gh, 5, none⟩ = some (.int .u32 v5) := blk_cell hh.out 5
      have c6 : W.cell? ⟨gh, 6, none⟩ = some (.int .u32 v6) := blk_cell hh.out 6
      have c7 : W.cell? ⟨gh, 7, none⟩ = some (.int .u32 v7) := blk_cell hh.out 7
      have HV := Aside0.mk hv
      have HD := Aside0.mk hD
      have HKD := Aside0.mk hK
      have HBB := Aside0.mk hB
      have HS4 := Aside0.mk hsz4
      clear hv hD hK hB hS hsz4 hb4
      go_wp2
      have HL := Aside0.mk (And.intro hh.out hs.out)
      clear c0 c1 c2 c3 c4 c5 c6 c7 hh hs
      obtain ⟨W0, hW0⟩ : ∃ W0 : World, W = W0 := ⟨_, rfl⟩
      go_loopw [6, 19] (fun x6 x19 W' => ∃ k : Nat, k ≤ 8 ∧ x19 = .int .i64 k ∧ Aside0 (Kd.R (Kd.int .u8) 5 W' W.heap.size (fun _ => True) x6 (outBytes [v0, v1, v2, v3, v4, v5, v6, v7] k)) ∧ Aside0 (Below W.heap.size W W')) (fun _ x19 _ => 8 - (intOf x19).toNat)
      case atStart => exact ⟨0, by omega, rfl, ⟨Kd.R_nil _ _ _ _ _⟩, ⟨Below.refl _ _⟩⟩
      case round =>
        obtain ⟨k, hk, rfl, HR1, HB1⟩ := hrel
        by_cases hlt : k < 8
        · have hk8 : k = 0 ∨ k = 1 ∨ k = 2 ∨ k = 3 ∨ k = 4 ∨ k = 5 ∨ k = 6 ∨ k = 7 := by omega
          clear hk hlt
          rcases hk8 with rfl | rfl | rfl | rfl | rfl | rfl | rfl | rfl
          · go_wp2_with (first
              | ((with_reducible refine gate_dst (N := 34) rfl ?_); refine Kd.R_lit (Kd.int .u8) _ 5 ?hg (N := 34) ?hd (xs := wordBytes v0) (inner := [.int .u8 (v0 / 16777216 % 256), .int .u8 (v0 / 65536 % 256), .int .u8 (v0 / 256 % 256), .int .u8 (v0 % 256)]) (ok := fun _ => True) (okp := fun _ => True) ?hr ?hp (fun _ hk => hk) trivial (Below.refl _ _) (Nat.le_refl _) (by simp [wordBytes]) ?_; (case hd => rfl); (case hg => rfl); (case hr => first | (go_simp; done) | (go_simp; rfl)); (case hp => exact Reps.one (show Kd.M (Kd.int .u8) _ _ _ (v0 / 16777216 % 256) [.int .u8 (v0 / 16777216 % 256)] from rfl) (Reps.one (show Kd.M (Kd.int .u8) _ _ _ (v0 / 65536 % 256) [.int .u8 (v0 / 65536 % 256)] from rfl) (Reps.one (show Kd.M (Kd.int .u8) _ _ _ (v0 / 256 % 256) [.int .u8 (v0 / 256 % 256)] from rfl) (Reps.one (show Kd.M (Kd.int .u8) _ _ _ (v0 % 256) [.int .u8 (v0 % 256)] from rfl) (Reps.none _ _))))); intro vl wl ho hb hg_ hn_; clear hg_ hn_; have n0 := Aside0.mk (Kd.R_elder' HR1.out (Kd.R_base ho) hb); have n1 := Aside0.mk (Kd.R_lower (Kd.R_new' ho (Kd.R_lt HR1.out)) (below_size HB1.out)); have n2 := Aside0.mk (below_step HB1.out hb); clear HR1 HB1 ho hb; have HR1 := n0; have HO1 := n1; have HB1 := n2; clear n0 n1 n2; obtain ⟨Ao, co, eo⟩ := Kd.R_slice HO1.out; subst eo)
              | ((with_reducible refine gate_builtin (b := .append) (xs := #[.tmp 22, .tmp 34]) rfl ?_); at_builtin; refine Kd.R_append_rows (Kd.int .u8) (w0 := W) W.heap.size rfl (.tmp 22) (.tmp 34) 22 5 (.int .u8 0) 1 rfl Try.underlying22 info5 rfl (by decide) (by omega) u6 (outBytes [v0, v1, v2, v3, v4, v5, v6, v7] 0) (wordBytes v0) _ _ _ (fun k_ => some k_ ≠ (.slice Ao (wordBytes v0).length co : Value).ownBlock) (fun _ => False) rfl rfl (Kd.R_mono HR1.out (fun _ hk => hk.2)) (Kd.R_reads' HO1.out).2.2 (fun _ _ h => h) (fun _ h => h.elim) (fun k_ hk => Kd.fresh' (Kd.R_lt HO1.out) k_ hk) HB1.out (below_size HB1.out) (by simp [outBytes, wordBytes]) ?_; intro va wa ho hb hg_ hn_; clear hg_ hn_))
            go_roundw
            case rel => exact ⟨1, by omega, by go_num, ⟨Kd.R_mono ho (fun _ _ => trivial)⟩, ⟨hb⟩⟩
            case measure => simp [intOf]
          · go_wp2_with (first
              | ((with_reducible refine gate_dst (N := 34) rfl ?_); refine Kd.R_lit (Kd.int .u8) _ 5 ?hg (N := 34) ?hd (xs := wordBytes v1) (inner := [.int .u8 (v1 / 16777216 % 256), .int .u8 (v1 / 65536 % 256), .int .u8 (v1 / 256 % 256), .int .u8 (v1 % 256)]) (ok := fun _ => True) (okp := fun _ => True) ?hr ?hp (fun _ hk => hk) trivial (Below.refl _ _) (Nat.le_refl _) (by simp [wordBytes]) ?_; (case hd => rfl); (case hg => rfl); (case hr => first | (go_simp; done) | (go_simp; rfl)); (case hp => exact Reps.one (show Kd.M (Kd.int .u8) _ _ _ (v1 / 16777216 % 256) [.int .u8 (v1 / 16777216 % 256)] from rfl) (Reps.one (show Kd.M (Kd.int .u8) _ _ _ (v1 / 65536 % 256) [.int .u8 (v1 / 65536 % 256)] from rfl) (Reps.one (show Kd.M (Kd.int .u8) _ _ _ (v1 / 256 % 256) [.int .u8 (v1 / 256 % 256)] from rfl) (Reps.one (show Kd.M (Kd.int .u8) _ _ _ (v1 % 256) [.int .u8 (v1 % 256)] from rfl) (Reps.none _ _))))); intro vl wl ho hb hg_ hn_; clear hg_ hn_; have n0 := Aside0.mk (Kd.R_elder' HR1.out (Kd.R_base ho) hb); have n1 := Aside0.mk (Kd.R_lower (Kd.R_new' ho (Kd.R_lt HR1.out)) (below_size HB1.out)); have n2 := Aside0.mk (below_step HB1.out hb); clear HR1 HB1 ho hb; have HR1 := n0; have HO1 := n1; have HB1 := n2; clear n0 n1 n2; obtain ⟨Ao, co, eo⟩ := Kd.R_slice HO1.out; subst eo)
              | ((with_reducible refine gate_builtin (b := .append) (xs := #[.tmp 22, .tmp 34]) rfl ?_); at_builtin; refine Kd.R_append_rows (Kd.int .u8) (w0 := W) W.heap.size rfl (.tmp 22) (.tmp 34) 22 5 (.int .u8 0) 1 rfl Try.underlying22 info5 rfl (by decide) (by omega) u6 (outBytes [v0, v1, v2, v3, v4, v5, v6, v7] 1) (wordBytes v1) _ _ _ (fun k_ => some k_ ≠ (.slice Ao (wordBytes v1).length co : Value).ownBlock) (fun _ => False) rfl rfl (Kd.R_mono HR1.out (fun _ hk => hk.2)) (Kd.R_reads' HO1.out).2.2 (fun _ _ h => h) (fun _ h => h.elim) (fun k_ hk => Kd.fresh' (Kd.R_lt HO1.out) k_ hk) HB1.out (below_size HB1.out) (by simp [outBytes, wordBytes]) ?_; intro va wa ho hb hg_ hn_; clear hg_ hn_))
            go_roundw
            case rel => exact ⟨2, by omega, by go_num, ⟨Kd.R_mono ho (fun _ _ => trivial)⟩, ⟨hb⟩⟩
            case measure => simp [intOf]
          · go_wp2_with (first
              | ((with_reducible refine gate_dst (N := 34) rfl ?_); refine Kd.R_lit (Kd.int .u8) _ 5 ?hg (N := 34) ?hd (xs := wordBytes v2) (inner := [.int .u8 (v2 / 16777216 % 256), .int .u8 (v2 / 65536 % 256), .int .u8 (v2 / 256 % 256), .int .u8 (v2 % 256)]) (ok := fun _ => True) (okp := fun _ => True) ?hr ?hp (fun _ hk => hk) trivial (Below.refl _ _) (Nat.le_refl _) (by simp [wordBytes]) ?_; (case hd => rfl); (case hg => rfl); (case hr => first | (go_simp; done) | (go_simp; rfl)); (case hp => exact Reps.one (show Kd.M (Kd.int .u8) _ _ _ (v2 / 16777216 % 256) [.int .u8 (v2 / 16777216 % 256)] from rfl) (Reps.one (show Kd.M (Kd.int .u8) _ _ _ (v2 / 65536 % 256) [.int .u8 (v2 / 65536 % 256)] from rfl) (Reps.one (show Kd.M (Kd.int .u8) _ _ _ (v2 / 256 % 256) [.int .u8 (v2 / 256 % 256)] from rfl) (Reps.one (show Kd.M (Kd.int .u8) _ _ _ (v2 % 256) [.int .u8 (v2 % 256)] from rfl) (Reps.none _ _))))); intro vl wl ho hb hg_ hn_; clear hg_ hn_; have n0 := Aside0.mk (Kd.R_elder' HR1.out (Kd.R_base ho) hb); have n1 := Aside0.mk (Kd.R_lower (Kd.R_new' ho (Kd.R_lt HR1.out)) (below_size HB1.out)); have n2 := Aside0.mk (below_step HB1.out hb); clear HR1 HB1 ho hb; have HR1 := n0; have HO1 := n1; have HB1 := n2; clear n0 n1 n2; obtain ⟨Ao, co, eo⟩ := Kd.R_slice HO1.out; subst eo)
              | ((with_reducible refine gate_builtin (b := .append) (xs := #[.tmp 22, .tmp 34]) rfl ?_); at_builtin; refine Kd.R_append_rows (Kd.int .u8) (w0 := W) W.heap.size rfl (.tmp 22) (.tmp 34) 22 5 (.int .u8 0) 1 rfl Try.underlying22 info5 rfl (by decide) (by omega) u6 (outBytes [v0, v1, v2, v3, v4, v5, v6, v7] 2) (wordBytes v2) _ _ _ (fun k_ => some k_ ≠ (.slice Ao (wordBytes v2).length co : Value).ownBlock) (fun _ => False) rfl rfl (Kd.R_mono HR1.out (fun _ hk => hk.2)) (Kd.R_reads' HO1.out).2.2 (fun _ _ h => h) (fun _ h => h.elim) (fun k_ hk => Kd.fresh' (Kd.R_lt HO1.out) k_ hk) HB1.out (below_size HB1.out) (by simp [outBytes, wordBytes]) ?_; intro va wa ho hb hg_ hn_; clear hg_ hn_))
            go_roundw
            case rel => exact ⟨3, by omega, by go_num, ⟨Kd.R_mono ho (fun _ _ => trivial)⟩, ⟨hb⟩⟩
            case measure => simp [intOf]
          · go_wp2_with (first
              | ((with_reducible refine gate_dst (N := 34) rfl ?_); refine Kd.R_lit (Kd.int .u8) _ 5 ?hg (N := 34) ?hd (xs := wordBytes v3) (inner := [.int .u8 (v3 / 16777216 % 256), .int .u8 (v3 / 65536 % 256), .int .u8 (v3 / 256 % 256), .int .u8 (v3 % 256)]) (ok := fun _ => True) (okp := fun _ => True) ?hr ?hp (fun _ hk => hk) trivial (Below.refl _ _) (Nat.le_refl _) (by simp [wordBytes]) ?_; (case hd => rfl); (case hg => rfl); (case hr => first | (go_simp; done) | (go_simp; rfl)); (case hp => exact Reps.one (show Kd.M (Kd.int .u8) _ _ _ (v3 / 16777216 % 256) [.int .u8 (v3 / 16777216 % 256)] from rfl) (Reps.one (show Kd.M (Kd.int .u8) _ _ _ (v3 / 65536 % 256) [.int .u8 (v3 / 65536 % 256)] from rfl) (Reps.one (show Kd.M (Kd.int .u8) _ _ _ (v3 / 256 % 256) [.int .u8 (v3 / 256 % 256)] from rfl) (Reps.one (show Kd.M (Kd.int .u8) _ _ _ (v3 % 256) [.int .u8 (v3 % 256)] from rfl) (Reps.none _ _))))); intro vl wl ho hb hg_ hn_; clear hg_ hn_; have n0 := Aside0.mk (Kd.R_elder' HR1.out (Kd.R_base ho) hb); have n1 := Aside0.mk (Kd.R_lower (Kd.R_new' ho (Kd.R_lt HR1.out)) (below_size HB1.out)); have n2 := Aside0.mk (below_step HB1.out hb); clear HR1 HB1 ho hb; have HR1 := n0; have HO1 := n1; have HB1 := n2; clear n0 n1 n2; obtain ⟨Ao, co, eo⟩ := Kd.R_slice HO1.out; subst eo)
              | ((with_reducible refine gate_builtin (b := .append) (xs := #[.tmp 22, .tmp 34]) rfl ?_); at_builtin; refine Kd.R_append_rows (Kd.int .u8) (w0 := W) W.heap.size rfl (.tmp 22) (.tmp 34) 22 5 (.int .u8 0) 1 rfl Try.underlying22 info5 rfl (by decide) (by omega) u6 (outBytes [v0, v1, v2, v3, v4, v5, v6, v7] 3) (wordBytes v3) _ _ _ (fun k_ => some k_ ≠ (.slice Ao (wordBytes v3).length co : Value).ownBlock) (fun _ => False) rfl rfl (Kd.R_mono HR1.out (fun _ hk => hk.2)) (Kd.R_reads' HO1.out).2.2 (fun _ _ h => h) (fun _ h => h.elim) (fun k_ hk => Kd.fresh' (Kd.R_lt HO1.out) k_ hk) HB1.out (below_size HB1.out) (by simp [outBytes, wordBytes]) ?_; intro va wa ho hb hg_ hn_; clear hg_ hn_))
            go_roundw
            case rel => exact ⟨4, by omega, by go_num, ⟨Kd.R_mono ho (fun _ _ => trivial)⟩, ⟨hb⟩⟩
            case measure => simp [intOf]
          · go_wp2_with (first
              | ((with_reducible refine gate_dst (N := 34) rfl ?_); refine Kd.R_lit (Kd.int .u8) _ 5 ?hg (N := 34) ?hd (xs := wordBytes v4) (inner := [.int .u8 (v4 / 16777216 % 256), .int .u8 (v4 / 65536 % 256), .int .u8 (v4 / 256 % 256), .int .u8 (v4 % 256)]) (ok := fun _ => True) (okp := fun _ => True) ?hr ?hp (fun _ hk => hk) trivial (Below.refl _ _) (Nat.le_refl _) (by simp [wordBytes]) ?_; (case hd => rfl); (case hg => rfl); (case hr => first | (go_simp; done) | (go_simp; rfl)); (case hp => exact Reps.one (show Kd.M (Kd.int .u8) _ _ _ (v4 / 16777216 % 256) [.int .u8 (v4 / 16777216 % 256)] from rfl) (Reps.one (show Kd.M (Kd.int .u8) _ _ _ (v4 / 65536 % 256) [.int .u8 (v4 / 65536 % 256)] from rfl) (Reps.one (show Kd.M (Kd.int .u8) _ _ _ (v4 / 256 % 256) [.int .u8 (v4 / 256 % 256)] from rfl) (Reps.one (show Kd.M (Kd.int .u8) _ _ _ (v4 % 256) [.int .u8 (v4 % 256)] from rfl) (Reps.none _ _))))); intro vl wl ho hb hg_ hn_; clear hg_ hn_; have n0 := Aside0.mk (Kd.R_elder' HR1.out (Kd.R_base ho) hb); have n1 := Aside0.mk (Kd.R_lower (Kd.R_new' ho (Kd.R_lt HR1.out)) (below_size HB1.out)); have n2 := Aside0.mk (below_step HB1.out hb); clear HR1 HB1 ho hb; have HR1 := n0; have HO1 := n1; have HB1 := n2; clear n0 n1 n2; obtain ⟨Ao, co, eo⟩ := Kd.R_slice HO1.out; subst eo)
              | ((with_reducible refine gate_builtin (b := .append) (xs := #[.tmp 22, .tmp 34]) rfl ?_); at_builtin; refine Kd.R_append_rows (Kd.int .u8) (w0 := W) W.heap.size rfl (.tmp 22) (.tmp 34) 22 5 (.int .u8 0) 1 rfl Try.underlying22 info5 rfl (by decide) (by omega) u6 (outBytes [v0, v1, v2, v3, v4, v5, v6, v7] 4) (wordBytes v4) _ _ _ (fun k_ => some k_ ≠ (.slice Ao (wordBytes v4).length co : Value).ownBlock) (fun _ => False) rfl rfl (Kd.R_mono HR1.out (fun _ hk => hk.2)) (Kd.R_reads' HO1.out).2.2 (fun _ _ h => h) (fun _ h => h.elim) (fun k_ hk => Kd.fresh' (Kd.R_lt HO1.out) k_ hk) HB1.out (below_size HB1.out) (by simp [outBytes, wordBytes]) ?_; intro va wa ho hb hg_ hn_; clear hg_ hn_))
            go_roundw
            case rel => exact ⟨5, by omega, by go_num, ⟨Kd.R_mono ho (fun _ _ => trivial)⟩, ⟨hb⟩⟩
            case measure => simp [intOf]
          · go_wp2_with (first
              | ((with_reducible refine gate_dst (N := 34) rfl ?_); refine Kd.R_lit (Kd.int .u8) _ 5 ?hg (N := 34) ?hd (xs := wordBytes v5) (inner := [.int .u8 (v5 / 16777216 % 256), .int .u8 (v5 / 65536 % 256), .int .u8 (v5 / 256 % 256), .int .u8 (v5 % 256)]) (ok := fun _ => True) (okp := fun _ => True) ?hr ?hp (fun _ hk => hk) trivial (Below.refl _ _) (Nat.le_refl _) (by simp [wordBytes]) ?_; (case hd => rfl); (case hg => rfl); (case hr => first | (go_simp; done) | (go_simp; rfl)); (case hp => exact Reps.one (show Kd.M (Kd.int .u8) _ _ _ (v5 / 16777216 % 256) [.int .u8 (v5 / 16777216 % 256)] from rfl) (Reps.one (show Kd.M (Kd.int .u8) _ _ _ (v5 / 65536 % 256) [.int .u8 (v5 / 65536 % 256)] from rfl) (Reps.one (show Kd.M (Kd.int .u8) _ _ _ (v5 / 256 % 256) [.int .u8 (v5 / 256 % 256)] from rfl) (Reps.one (show Kd.M (Kd.int .u8) _ _ _ (v5 % 256) [.int .u8 (v5 % 256)] from rfl) (Reps.none _ _))))); intro vl wl ho hb hg_ hn_; clear hg_ hn_; have n0 := Aside0.mk (Kd.R_elder' HR1.out (Kd.R_base ho) hb); have n1 := Aside0.mk (Kd.R_lower (Kd.R_new' ho (Kd.R_lt HR1.out)) (below_size HB1.out)); have n2 := Aside0.mk (below_step HB1.out hb); clear HR1 HB1 ho hb; have HR1 := n0; have HO1 := n1; have HB1 := n2; clear n0 n1 n2; obtain ⟨Ao, co, eo⟩ := Kd.R_slice HO1.out; subst eo)
              | ((with_reducible refine gate_builtin (b := .append) (xs := #[.tmp 22, .tmp 34]) rfl ?_); at_builtin; refine Kd.R_append_rows (Kd.int .u8) (w0 := W) W.heap.size rfl (.tmp 22) (.tmp 34) 22 5 (.int .u8 0) 1 rfl Try.underlying22 info5 rfl (by decide) (by omega) u6 (outBytes [v0, v1, v2, v3, v4, v5, v6, v7] 5) (wordBytes v5) _ _ _ (fun k_ => some k_ ≠ (.slice Ao (wordBytes v5).length co : Value).ownBlock) (fun _ => False) rfl rfl (Kd.R_mono HR1.out (fun _ hk => hk.2)) (Kd.R_reads' HO1.out).2.2 (fun _ _ h => h) (fun _ h => h.elim) (fun k_ hk => Kd.fresh' (Kd.R_lt HO1.out) k_ hk) HB1.out (below_size HB1.out) (by simp [outBytes, wordBytes]) ?_; intro va wa ho hb hg_ hn_; clear hg_ hn_))
            go_roundw
            case rel => exact ⟨6, by omega, by go_num, ⟨Kd.R_mono ho (fun _ _ => trivial)⟩, ⟨hb⟩⟩
            case measure => simp [intOf]
          · go_wp2_with (first
              | ((with_reducible refine gate_dst (N := 34) rfl ?_); refine Kd.R_lit (Kd.int .u8) _ 5 ?hg (N := 34) ?hd (xs := wordBytes v6) (inner := [.int .u8 (v6 / 16777216 % 256), .int .u8 (v6 / 65536 % 256), .int .u8 (v6 / 256 % 256), .int .u8 (v6 % 256)]) (ok := fun _ => True) (okp := fun _ => True) ?hr ?hp (fun _ hk => hk) trivial (Below.refl _ _) (Nat.le_refl _) (by simp [wordBytes]) ?_; (case hd => rfl); (case hg => rfl); (case hr => first | (go_simp; done) | (go_simp; rfl)); (case hp => exact Reps.one (show Kd.M (Kd.int .u8) _ _ _ (v6 / 16777216 % 256) [.int .u8 (v6 / 16777216 % 256)] from rfl) (Reps.one (show Kd.M (Kd.int .u8) _ _ _ (v6 / 65536 % 256) [.int .u8 (v6 / 65536 % 256)] from rfl) (Reps.one (show Kd.M (Kd.int .u8) _ _ _ (v6 / 256 % 256) [.int .u8 (v6 / 256 % 256)] from rfl) (Reps.one (show Kd.M (Kd.int .u8) _ _ _ (v6 % 256) [.int .u8 (v6 % 256)] from rfl) (Reps.none _ _))))); intro vl wl ho hb hg_ hn_; clear hg_ hn_; have n0 := Aside0.mk (Kd.R_elder' HR1.out (Kd.R_base ho) hb); have n1 := Aside0.mk (Kd.R_lower (Kd.R_new' ho (Kd.R_lt HR1.out)) (below_size HB1.out)); have n2 := Aside0.mk (below_step HB1.out hb); clear HR1 HB1 ho hb; have HR1 := n0; have HO1 := n1; have HB1 := n2; clear n0 n1 n2; obtain ⟨Ao, co, eo⟩ := Kd.R_slice HO1.out; subst eo)
              | ((with_reducible refine gate_builtin (b := .append) (xs := #[.tmp 22, .tmp 34]) rfl ?_); at_builtin; refine Kd.R_append_rows (Kd.int .u8) (w0 := W) W.heap.size rfl (.tmp 22) (.tmp 34) 22 5 (.int .u8 0) 1 rfl Try.underlying22 info5 rfl (by decide) (by omega) u6 (outBytes [v0, v1, v2, v3, v4, v5, v6, v7] 6) (wordBytes v6) _ _ _ (fun k_ => some k_ ≠ (.slice Ao (wordBytes v6).length co : Value).ownBlock) (fun _ => False) rfl rfl (Kd.R_mono HR1.out (fun _ hk => hk.2)) (Kd.R_reads' HO1.out).2.2 (fun _ _ h => h) (fun _ h => h.elim) (fun k_ hk => Kd.fresh' (Kd.R_lt HO1.out) k_ hk) HB1.out (below_size HB1.out) (by simp [outBytes, wordBytes]) ?_; intro va wa ho hb hg_ hn_; clear hg_ hn_))
            go_roundw
            case rel => exact ⟨7, by omega, by go_num, ⟨Kd.R_mono ho (fun _ _ => trivial)⟩, ⟨hb⟩⟩
            case measure => simp [intOf]
          · go_wp2_with (first
              | ((with_reducible refine gate_dst (N := 34) rfl ?_); refine Kd.R_lit (Kd.int .u8) _ 5 ?hg (N := 34) ?hd (xs := wordBytes v7) (inner := [.int .u8 (v7 / 16777216 % 256), .int .u8 (v7 / 65536 % 256), .int .u8 (v7 / 256 % 256), .int .u8 (v7 % 256)]) (ok := fun _ => True) (okp := fun _ => True) ?hr ?hp (fun _ hk => hk) trivial (Below.refl _ _) (Nat.le_refl _) (by simp [wordBytes]) ?_; (case hd => rfl); (case hg => rfl); (case hr => first | (go_simp; done) | (go_simp; rfl)); (case hp => exact Reps.one (show Kd.M (Kd.int .u8) _ _ _ (v7 / 16777216 % 256) [.int .u8 (v7 / 16777216 % 256)] from rfl) (Reps.one (show Kd.M (Kd.int .u8) _ _ _ (v7 / 65536 % 256) [.int .u8 (v7 / 65536 % 256)] from rfl) (Reps.one (show Kd.M (Kd.int .u8) _ _ _ (v7 / 256 % 256) [.int .u8 (v7 / 256 % 256)] from rfl) (Reps.one (show Kd.M (Kd.int .u8) _ _ _ (v7 % 256) [.int .u8 (v7 % 256)] from rfl) (Reps.none _ _))))); intro vl wl ho hb hg_ hn_; clear hg_ hn_; have n0 := Aside0.mk (Kd.R_elder' HR1.out (Kd.R_base ho) hb); have n1 := Aside0.mk (Kd.R_lower (Kd.R_new' ho (Kd.R_lt HR1.out)) (below_size HB1.out)); have n2 := Aside0.mk (below_step HB1.out hb); clear HR1 HB1 ho hb; have HR1 := n0; have HO1 := n1; have HB1 := n2; clear n0 n1 n2; obtain ⟨Ao, co, eo⟩ := Kd.R_slice HO1.out; subst eo)
              | ((with_reducible refine gate_builtin (b := .append) (xs := #[.tmp 22, .tmp 34]) rfl ?_); at_builtin; refine Kd.R_append_rows (Kd.int .u8) (w0 := W) W.heap.size rfl (.tmp 22) (.tmp 34) 22 5 (.int .u8 0) 1 rfl Try.underlying22 info5 rfl (by decide) (by omega) u6 (outBytes [v0, v1, v2, v3, v4, v5, v6, v7] 7) (wordBytes v7) _ _ _ (fun k_ => some k_ ≠ (.slice Ao (wordBytes v7).length co : Value).ownBlock) (fun _ => False) rfl rfl (Kd.R_mono HR1.out (fun _ hk => hk.2)) (Kd.R_reads' HO1.out).2.2 (fun _ _ h => h) (fun _ h => h.elim) (fun k_ hk => Kd.fresh' (Kd.R_lt HO1.out) k_ hk) HB1.out (below_size HB1.out) (by simp [outBytes, wordBytes]) ?_; intro va wa ho hb hg_ hn_; clear hg_ hn_))
            go_roundw
            case rel => exact ⟨8, by omega, by go_num, ⟨Kd.R_mono ho (fun _ _ => trivial)⟩, ⟨hb⟩⟩
            case measure => simp [intOf]
        · obtain rfl : k = 8 := by omega
          have b20 : decide (((8 : Nat) : Int) < 8) = false := by decide
          have hcv := own_string (P := Try.prog) Try.underlying22 Try.underlying5 Try.underlying9 (Kd.own_of_R HR1.out)
          go_wp2
          have hK' : wr.heap[D]? = some (.deferred (some [])) := (HB1.out.block D (Array.getElem?_eq_some_iff.1 HKD.out).1).trans HKD.out
          refine ⟨by simp, .inl ⟨_, _, rfl, run_takeDeferred hK', ?_⟩⟩
          have hsha : sha l0 = strOfNums (outBytes [v0, v1, v2, v3, v4, v5, v6, v7] 8) := by
            rw [sha, shaBytes, HV.out]
          have hBz : Below w.heap.size w (wr.putObj D (.deferred none)) := by
            have hsz := HBB.out.size
            have hD := HD.out
            have h1 : Below w.heap.size w wr := HBB.out.trans (HB1.out.mono hsz)
            have h2 := HL.out.2
            have h3 := HB3.out.size
            have h4 := HS4.out
            exact h1.trans (belowK_b (w := w) (Nat.le_refl _) wr D _ _ (by omega) hK' rfl rfl)
          rw [hsha]
          refine ⟨.string (strOfNums (outBytes [v0, v1, v2, v3, v4, v5, v6, v7] 8)), ?_, rfl, hBz⟩
          simp [results, Try.f101, go_sem]
  · rw [if_neg hl] at h
    cases h
end Go.Proofs.Ytjnnglphdaemaaa.Q
end

section
-- Written by a program of this session (wip/tools/pp.sh) over the print of the kit.
namespace Go.Proofs.Ytjnnglphdaemaaa.Q
open Go.RowKit Go.Proofs.YtjnnglphdaemaaaW.PrintWords Go.Proofs.YtjnnglphdaemaaaW.PrintLast Go.Proofs.YtjnnglphdaemaaaW.PrintMore
attribute [local go_sem] max2_int min2_int max_two min_two max_three min_three max_four min_four   -- for this text's walks alone
set_option linter.unusedVariables false
set_option linter.unusedSimpArgs false
def impl_NodeHash.f (a0 : ByteArray) (a1 : ByteArray) : Option (ByteArray) := (some (([1] : List Int) : List Int)).bind fun y601 => (if y601.length + a0.size < 140737488355328 then ((some (y601 ++ bytesOf a0 : List Int)).bind fun y604 => (if y604.length + a1.size < 140737488355328 then ((impl_Digest.f (y604 ++ bytesOf a1)).bind fun t610 => (some t610)) else (none))) else (none))
set_option maxHeartbeats 8000000 in
set_option maxRecDepth 100000 in
theorem impl_NodeHash.calls (a0 : ByteArray) (a1 : ByteArray) (r : ByteArray) (w : World) (h : impl_NodeHash.f a0 a1 = some r) :
  Calls Try.prog 104 #[.string a0, .string a1] w fun e w' => e = .returned (.string r) ∧ Below w.heap.size w w' := by
 have HB := Aside0.mk (Below.refl w.heap.size w)
 have H : ((some (([1] : List Int) : List Int)).bind fun y601 => (if y601.length + a0.size < 140737488355328 then ((some (y601 ++ bytesOf a0 : List Int)).bind fun y604 => (if y604.length + a1.size < 140737488355328 then ((impl_Digest.f (y604 ++ bytesOf a1)).bind fun t610 => (some t610)) else (none))) else (none))) = some r := h
 clear h
 obtain ⟨y601, Ny601, H⟩ := sb_ (([1] : List Int)) H
 replace H := ip_ H; obtain ⟨c3, H⟩ := H
 have LMc3 := Aside0.mk c3
 clear c3
 obtain ⟨y604, Ny604, H⟩ := sb_ (y601 ++ bytesOf a0) H
 replace H := ip_ H; obtain ⟨c4, H⟩ := H
 have LMc4 := Aside0.mk c4
 clear c4
 obtain ⟨y607, hy607⟩ : ∃ y_ : List Int, y_ = (y604 ++ bytesOf a1) := ⟨_, rfl⟩
 replace H : ((impl_Digest.f y607).bind fun t610 => (some t610)) = some r := yh_ hy607 H
 have Ny607 := Aside0.mk hy607
 clear hy607
 replace H := bi_ H; obtain ⟨t610, A5, H⟩ := H
 obtain rfl := Option.some.inj H
 go_enter Try.func104, Try.ntmps104
 go_wp2_with (first | ((with_reducible refine gd_ 5 ?_); refine rl_ (Kd.int .u8) 5 5 ([1] : List Int) [.int .u8 1] ?_; intro v602 w6 ho7 hb hg_ hnew_; clear hg_ hnew_; (first | rw [← Ny601.out] at ho7 | (simp only [Int.reduceToNat] at ho7; rw [← Ny601.out] at ho7)); have HO603 := Aside0.mk (Kd.R_lower ho7 (sz_ HB)); replace HB := ss_ HB hb; clear hb ho7) | (at_builtin; refine print_append_str (w0 := w) w.heap.size rfl (.tmp 5) _ 22 9 5 rfl Try.underlying22 Try.underlying9 info5 v602 y601 a0 rfl rfl ?aO ?aB ?aS ?aL ?_; (case aB => exact (bw_ HB)); (case aO => exact (Kd.own_of_R (kr_ HO603.out))); (case aS => exact (sz_ HB)); (case aL => have := LMc3.out; omega); intro v605 w8 ho0 hb hg; have ho := Kd.R_of_own (h1 := fun _ => rfl) (ok := fun _ => True) ho0 (fun _ _ => trivial); clear ho0; have hat := True.intro; rw [← Ny604.out] at ho; change Kd.R (Kd.int .u8) 5 w8 w.heap.size (fun _ => True) v605 y604 at ho; replace HB := Aside0.mk hb; have HO606 := Aside0.mk ho; clear HO603; clear ho hb hg hat) | (at_builtin; refine print_append_str (w0 := w) w.heap.size rfl (.tmp 7) _ 22 9 5 rfl Try.underlying22 Try.underlying9 info5 v605 y604 a1 rfl rfl ?aO ?aB ?aS ?aL ?_; (case aB => exact (bw_ HB)); (case aO => exact (Kd.own_of_R (kr_ HO606.out))); (case aS => exact (sz_ HB)); (case aL => have := LMc4.out; omega); intro v608 w9 ho0 hb hg; have ho := Kd.R_of_own (h1 := fun _ => rfl) (ok := fun _ => True) ho0 (fun _ _ => trivial); clear ho0; have hat := True.intro; rw [← Ny607.out] at ho; change Kd.R (Kd.int .u8) 5 w9 w.heap.size (fun _ => True) v608 y607 at ho; replace HB := Aside0.mk hb; have HO609 := Aside0.mk ho; clear HO606; clear ho hb hg hat; obtain ⟨Ao10, co10, eo10⟩ := Kd.R_slice HO609.out; subst eo10) | ((with_reducible refine gq_ 101 10 ?_); refine gc_ 10 Try.func101 (impl_Digest.calls _ _ y607 t610 _ (ch_ HO609) (cl_ HO609) A5.out) ?_; rintro e w11 ⟨rfl, hb⟩; refine ⟨_, rfl, ?_⟩; replace HO609 := rb_ HO609 hb; replace HB := ss_ HB hb; clear hb))
 go_ret
 exact ⟨e2_, bw_ HB⟩
end Go.Proofs.Ytjnnglphdaemaaa.Q
end

section
-- Written by a program of this session (wip/tools/pp.sh) over the print of the kit.
namespace Go.Proofs.Ytjnnglphdaemaaa.Q
open Go.RowKit Go.Proofs.YtjnnglphdaemaaaW.PrintWords Go.Proofs.YtjnnglphdaemaaaW.PrintLast Go.Proofs.YtjnnglphdaemaaaW.PrintMore
attribute [local go_sem] max2_int min2_int max_two min_two max_three min_three max_four min_four   -- for this text's walks alone
set_option linter.unusedVariables false
set_option linter.unusedSimpArgs false
end Go.Proofs.Ytjnnglphdaemaaa.Q
end

section
-- Written by a program of this session (wip/tools/pp.sh) over the print of the kit.
namespace Go.Proofs.Ytjnnglphdaemaaa.Q
open Go.RowKit Go.Proofs.YtjnnglphdaemaaaW.PrintWords Go.Proofs.YtjnnglphdaemaaaW.PrintLast Go.Proofs.YtjnnglphdaemaaaW.PrintMore
attribute [local go_sem] max2_int min2_int max_two min_two max_three min_three max_four min_four   -- for this text's walks alone
set_option linter.unusedVariables false
set_option linter.unusedSimpArgs false
def impl_LeafHash.f (a0 : ByteArray) : Option (ByteArray) := (some (([0] : List Int) : List Int)).bind fun y601 => (if y601.length + a0.size < 140737488355328 then ((impl_Digest.f (y601 ++ bytesOf a0)).bind fun t607 => (some t607)) else (none))
set_option maxHeartbeats 8000000 in
set_option maxRecDepth 100000 in
theorem impl_LeafHash.calls (a0 : ByteArray) (r : ByteArray) (w : World) (h : impl_LeafHash.f a0 = some r) :
  Calls Try.prog 102 #[.string a0] w fun e w' => e = .returned (.string r) ∧ Below w.heap.size w w' := by
 have HB := Aside0.mk (Below.refl w.heap.size w)
 have H : ((some (([0] : List Int) : List Int)).bind fun y601 => (if y601.length + a0.size < 140737488355328 then ((impl_Digest.f (y601 ++ bytesOf a0)).bind fun t607 => (some t607)) else (none))) = some r := h
 clear h
 obtain ⟨y601, Ny601, H⟩ := sb_ (([0] : List Int)) H
 replace H := ip_ H; obtain ⟨c2, H⟩ := H
 have LMc2 := Aside0.mk c2
 clear c2
 obtain ⟨y604, hy604⟩ : ∃ y_ : List Int, y_ = (y601 ++ bytesOf a0) := ⟨_, rfl⟩
 replace H : ((impl_Digest.f y604).bind fun t607 => (some t607)) = some r := yh_ hy604 H
 have Ny604 := Aside0.mk hy604
 clear hy604
 replace H := bi_ H; obtain ⟨t607, A3, H⟩ := H
 obtain rfl := Option.some.inj H
 go_enter Try.func102, Try.ntmps102
 go_wp2_with (first | ((with_reducible refine gd_ 3 ?_); refine rl_ (Kd.int .u8) 5 3 ([0] : List Int) [.int .u8 0] ?_; intro v602 w4 ho5 hb hg_ hnew_; clear hg_ hnew_; (first | rw [← Ny601.out] at ho5 | (simp only [Int.reduceToNat] at ho5; rw [← Ny601.out] at ho5)); have HO603 := Aside0.mk (Kd.R_lower ho5 (sz_ HB)); replace HB := ss_ HB hb; clear hb ho5) | (at_builtin; refine print_append_str (w0 := w) w.heap.size rfl (.tmp 3) _ 22 9 5 rfl Try.underlying22 Try.underlying9 info5 v602 y601 a0 rfl rfl ?aO ?aB ?aS ?aL ?_; (case aB => exact (bw_ HB)); (case aO => exact (Kd.own_of_R (kr_ HO603.out))); (case aS => exact (sz_ HB)); (case aL => have := LMc2.out; omega); intro v605 w6 ho0 hb hg; have ho := Kd.R_of_own (h1 := fun _ => rfl) (ok := fun _ => True) ho0 (fun _ _ => trivial); clear ho0; have hat := True.intro; rw [← Ny604.out] at ho; change Kd.R (Kd.int .u8) 5 w6 w.heap.size (fun _ => True) v605 y604 at ho; replace HB := Aside0.mk hb; have HO606 := Aside0.mk ho; clear HO603; clear ho hb hg hat; obtain ⟨Ao7, co7, eo7⟩ := Kd.R_slice HO606.out; subst eo7) | ((with_reducible refine gq_ 101 6 ?_); refine gc_ 6 Try.func101 (impl_Digest.calls _ _ y604 t607 _ (ch_ HO606) (cl_ HO606) A3.out) ?_; rintro e w8 ⟨rfl, hb⟩; refine ⟨_, rfl, ?_⟩; replace HO606 := rb_ HO606 hb; replace HB := ss_ HB hb; clear hb))
 go_ret
 exact ⟨e2_, bw_ HB⟩
end Go.Proofs.Ytjnnglphdaemaaa.Q
end

section
-- Written by a program of this session (wip/tools/pp.sh) over the print of the kit.
namespace Go.Proofs.Ytjnnglphdaemaaa.Q
open Go.RowKit Go.Proofs.YtjnnglphdaemaaaW.PrintWords Go.Proofs.YtjnnglphdaemaaaW.PrintLast Go.Proofs.YtjnnglphdaemaaaW.PrintMore
attribute [local go_sem] max2_int min2_int max_two min_two max_three min_three max_four min_four   -- for this text's walks alone
set_option linter.unusedVariables false
set_option linter.unusedSimpArgs false
end Go.Proofs.Ytjnnglphdaemaaa.Q
end

section
-- Written by a program of this session (wip/tools/pp.sh) over the print of the kit.
namespace Go.Proofs.Ytjnnglphdaemaaa.Q
open Go.RowKit Go.Proofs.YtjnnglphdaemaaaW.PrintWords Go.Proofs.YtjnnglphdaemaaaW.PrintLast Go.Proofs.YtjnnglphdaemaaaW.PrintMore
attribute [local go_sem] max2_int min2_int max_two min_two max_three min_three max_four min_four   -- for this text's walks alone
set_option linter.unusedVariables false
set_option linter.unusedSimpArgs false
def impl_half.l0 : Nat → Int → Int → Option (Int)
 | 0, _, _ => none
 | k + 1, x0, x3 => if (wrap64 (2 * x3)) < x0 then (impl_half.l0 k x0 (wrap64 (x3 * 2))) else (some x3)
def impl_half.f (k : Nat) (a0 : Int) : Option (Int) := impl_half.l0 k a0 1
theorem impl_half.mono_l : ∀ k, (∀ y0 y1, LeO (impl_half.l0 k y0 y1) (impl_half.l0 (k + 1) y0 y1))
 | 0 => fun _ _ r h => by simp [impl_half.l0] at h
 | k + 1 => by
  have ih0 := impl_half.mono_l k
  ·intro y0 y1
   unfold impl_half.l0
   repeat' (with_reducible first | exact LeO.refl _ | exact LeO.none _ | apply ih0 | apply LeO.ite | refine LeO.bind ?_ fun _ => ?_)
theorem impl_half.mono : ∀ a0 k, LeO (impl_half.f k a0) (impl_half.f (k + 1) a0) := by
 intro a0 k
 have ih0 := impl_half.mono_l k
 unfold impl_half.f
 repeat' (with_reducible first | exact LeO.refl _ | exact LeO.none _ | apply ih0 | apply LeO.ite | refine LeO.bind ?_ fun _ => ?_)
set_option maxHeartbeats 8000000 in
set_option maxRecDepth 100000 in
theorem impl_half.calls (k : Nat) (a0 : Int) (r : Int) (w : World) (h : impl_half.f k a0 = some r) :
  Calls Try.prog 103 #[.int .i64 a0] w fun e w' => e = .returned (.int .i64 r) ∧ Below w.heap.size w w' := by
 have HB := Aside0.mk (Below.refl w.heap.size w)
 have H : (impl_half.l0 k a0 1) = some r := h
 clear h
 have H' := Aside0.mk H
 clear H
 go_enter Try.func103, Try.ntmps103
 go_wp2
 go_loopg [3] k (fun kq v3 w' => ∃ (x3_1 : Int), v3 = .int .i64 x3_1 ∧ Aside0 (impl_half.l0 kq a0 x3_1 = some r) ∧ Aside0 (kq ≤ k) ∧ Aside0 (Below w.heap.size w w'))
 case atStart => exact ⟨(1), e1_, H', ⟨Nat.le_refl _⟩, ⟨bw_ HB⟩⟩
 case round =>
  clear H'
  obtain ⟨x3_1, rfl, HA, HK1, HB⟩ := hrel
  cases gk with
  | zero => exact absurd HA.out (by simp [impl_half.l0])
  | succ k1 =>
   have H := HA.out
   clear HA
   simp only [impl_half.l0] at H
   replace H := itd_ H; obtain ⟨c2b0, H⟩ | ⟨c2b0, H⟩ := H
   ·have H' := Aside0.mk H
    clear H
    go_wp2
    go_roundg k1
    case measure => have := HK1.out; omega
    case rel => exact ⟨(wrap64 (x3_1 * 2)), e1_, H', ⟨by have := HK1.out; omega⟩, ⟨bw_ HB⟩⟩
   ·obtain rfl := Option.some.inj H
    go_wp2
    go_ret
    exact ⟨e2_, bw_ HB⟩
end Go.Proofs.Ytjnnglphdaemaaa.Q
end

section
-- Written by a program of this session (wip/tools/pp.sh) over the print of the kit.
namespace Go.Proofs.Ytjnnglphdaemaaa.Q
open Go.RowKit Go.Proofs.YtjnnglphdaemaaaW.PrintWords Go.Proofs.YtjnnglphdaemaaaW.PrintLast Go.Proofs.YtjnnglphdaemaaaW.PrintMore
attribute [local go_sem] max2_int min2_int max_two min_two max_three min_three max_four min_four   -- for this text's walks alone
set_option linter.unusedVariables false
set_option linter.unusedSimpArgs false
def spec_l6Half.l0 : Nat → Int → Int → Option (Int)
 | 0, _, _ => none
 | k + 1, x0, x3 => if (wrap64 (2 * x3)) < x0 then (spec_l6Half.l0 k x0 (wrap64 (2 * x3))) else (some x3)
def spec_l6Half.f (k : Nat) (a0 : Int) : Option (Int) := spec_l6Half.l0 k a0 1
theorem spec_l6Half.mono_l : ∀ k, (∀ y0 y1, LeO (spec_l6Half.l0 k y0 y1) (spec_l6Half.l0 (k + 1) y0 y1))
 | 0 => fun _ _ r h => by simp [spec_l6Half.l0] at h
 | k + 1 => by
  have ih0 := spec_l6Half.mono_l k
  ·intro y0 y1
   unfold spec_l6Half.l0
   repeat' (with_reducible first | exact LeO.refl _ | exact LeO.none _ | apply ih0 | apply LeO.ite | refine LeO.bind ?_ fun _ => ?_)
theorem spec_l6Half.mono : ∀ a0 k, LeO (spec_l6Half.f k a0) (spec_l6Half.f (k + 1) a0) := by
 intro a0 k
 have ih0 := spec_l6Half.mono_l k
 unfold spec_l6Half.f
 repeat' (with_reducible first | exact LeO.refl _ | exact LeO.none _ | apply ih0 | apply LeO.ite | refine LeO.bind ?_ fun _ => ?_)
set_option maxHeartbeats 8000000 in
set_option maxRecDepth 100000 in
theorem spec_l6Half.calls (k : Nat) (a0 : Int) (r : Int) (w : World) (h : spec_l6Half.f k a0 = some r) :
  Calls Try.prog 132 #[.int .i64 a0] w fun e w' => e = .returned (.int .i64 r) ∧ Below w.heap.size w w' := by
 have HB := Aside0.mk (Below.refl w.heap.size w)
 have H : (spec_l6Half.l0 k a0 1) = some r := h
 clear h
 have H' := Aside0.mk H
 clear H
 go_enter Try.func132, Try.ntmps132
 go_wp2
 go_loopg [3] k (fun kq v3 w' => ∃ (x3_1 : Int), v3 = .int .i64 x3_1 ∧ Aside0 (spec_l6Half.l0 kq a0 x3_1 = some r) ∧ Aside0 (kq ≤ k) ∧ Aside0 (Below w.heap.size w w'))
 case atStart => exact ⟨(1), e1_, H', ⟨Nat.le_refl _⟩, ⟨bw_ HB⟩⟩
 case round =>
  clear H'
  obtain ⟨x3_1, rfl, HA, HK1, HB⟩ := hrel
  cases gk with
  | zero => exact absurd HA.out (by simp [spec_l6Half.l0])
  | succ k1 =>
   have H := HA.out
   clear HA
   simp only [spec_l6Half.l0] at H
   replace H := itd_ H; obtain ⟨c2b0, H⟩ | ⟨c2b0, H⟩ := H
   ·have H' := Aside0.mk H
    clear H
    go_wp2
    go_roundg k1
    case measure => have := HK1.out; omega
    case rel => exact ⟨(wrap64 (2 * x3_1)), e1_, H', ⟨by have := HK1.out; omega⟩, ⟨bw_ HB⟩⟩
   ·obtain rfl := Option.some.inj H
    go_wp2
    go_ret
    exact ⟨e2_, bw_ HB⟩
end Go.Proofs.Ytjnnglphdaemaaa.Q
end

section
/- Hashes of a text and of two, the half of a number, and the root of a tree: the program's and the reference's are one. Plain. -/
namespace Go.Proofs.Ytjnnglphdaemaaa.Q
open Go.RowKit Go.Proofs.Ytjnnglphdaemaaa.B Go.Proofs.YtjnnglphdaemaaaW.PrintWords Go.Proofs.YtjnnglphdaemaaaW.PrintMore
set_option linter.unusedVariables false
set_option linter.unusedSimpArgs false

theorem bytesOf_range (s : ByteArray) : ∀ x ∈ bytesOf s, 0 ≤ x ∧ x ≤ 255 := by
  intro x hx
  simp only [bytesOf, List.mem_map] at hx
  obtain ⟨b, _, rfl⟩ := hx
  have := b.toNat_lt
  omega
def leafH (a : ByteArray) : ByteArray := sha (0 :: bytesOf a)
def nodeH (a b : ByteArray) : ByteArray := sha (1 :: (bytesOf a ++ bytesOf b))
theorem leafH_size (a : ByteArray) : (leafH a).size = 32 := sha_size _
theorem nodeH_size (a b : ByteArray) : (nodeH a b).size = 32 := sha_size _
theorem impl_leaf (a : ByteArray) (h : a.size ≤ 1099511627775) : impl_LeafHash.f a = some (leafH a) := by
  unfold impl_LeafHash.f
  simp only [Option.bind_some, List.length_cons, List.length_nil]
  rw [if_pos (by omega)]
  have e : ([0] : List Int) ++ bytesOf a = 0 :: bytesOf a := rfl
  rw [e, impl_Digest_is _ (by rw [List.length_cons, bytesOf_length]; omega)]
  rfl
theorem impl_node (a b : ByteArray) (h : a.size + b.size ≤ 1099511627775) : impl_NodeHash.f a b = some (nodeH a b) := by
  unfold impl_NodeHash.f
  simp only [Option.bind_some, List.length_cons, List.length_nil]
  rw [if_pos (by omega), if_pos (by simp [bytesOf_length]; omega)]
  have e : [1] ++ bytesOf a ++ bytesOf b = 1 :: (bytesOf a ++ bytesOf b) := rfl
  rw [e, impl_Digest_is _ (by rw [List.length_cons, List.length_append, bytesOf_length, bytesOf_length]; omega)]
  rfl
/-- The greatest power of two under n. -/
def half (n : Nat) : Nat := 2 ^ (n - 1).log2
theorem half_pos (n : Nat) : 1 ≤ half n := Nat.one_le_two_pow
theorem half_lt {n : Nat} (h : 2 ≤ n) : half n < n := by
  have := Nat.log2_self_le (n := n - 1) (by omega)
  unfold half
  omega
theorem half_l0 (n : Nat) (h2 : 2 ≤ n) (hn : n ≤ 4611686018427387904) : ∀ (d j : Nat), d + j = (n - 1).log2 → Ev (fun k => spec_l6Half.l0 k (n : Int) ((2 ^ j : Nat) : Int)) ((half n : Nat) : Int) := by
  have hself := Nat.log2_self_le (n := n - 1) (by omega)
  have hlt := Nat.lt_log2_self (n := n - 1)
  intro d
  induction d with
  | zero =>
    intro j hj
    obtain rfl : j = (n - 1).log2 := by omega
    refine Ev.step (f := fun _ => some ((half n : Nat) : Int)) (fun k => ?_) (Ev.now _)
    rw [Nat.pow_succ] at hlt
    simp only [spec_l6Half.l0]
    rw [w64 (by omega) (by omega), if_neg (by omega)]
    rfl
  | succ d ih =>
    intro j hj
    have hp : 2 ^ (j + 1) ≤ 2 ^ (n - 1).log2 := Nat.pow_le_pow_right (by decide) (by omega)
    have hs : 2 ^ (j + 1) = 2 ^ j * 2 := Nat.pow_succ _ _
    refine Ev.step (fun k => ?_) (ih (j + 1) (by omega))
    simp only [spec_l6Half.l0]
    rw [w64 (by omega) (by omega), if_pos (by omega)]
    congr 1
    omega
theorem spec_half (n : Nat) (h2 : 2 ≤ n) (hn : n ≤ 4611686018427387904) : Ev (fun k => spec_l6Half.f k (n : Int)) ((half n : Nat) : Int) := half_l0 n h2 hn (n - 1).log2 0 rfl
theorem half_same (k : Nat) (n x : Int) : impl_half.l0 k n x = spec_l6Half.l0 k n x := by
  induction k generalizing x with
  | zero => simp only [impl_half.l0, spec_l6Half.l0]
  | succ k ih =>
    simp only [impl_half.l0, spec_l6Half.l0]
    rw [ih, Int.mul_comm]
theorem impl_half_ev (n : Nat) (h2 : 2 ≤ n) (hn : n ≤ 4611686018427387904) : Ev (fun k => impl_half.f k (n : Int)) ((half n : Nat) : Int) := by
  refine Ev.congr (fun k => ?_) (spec_half n h2 hn)
  unfold impl_half.f spec_l6Half.f
  rw [half_same]

/-- The root of a tree over a list, its leaves told by lf. -/
def rootBy (lf : ByteArray → ByteArray) (l : List ByteArray) : ByteArray :=
  if h : 2 ≤ l.length then nodeH (rootBy lf (l.take (half l.length))) (rootBy lf (l.drop (half l.length)))
  else match l with
    | [] => sha []
    | a :: _ => lf a
termination_by l.length
decreasing_by
  · have := half_lt h
    simp
    omega
  · have := half_pos l.length
    simp
    omega
theorem rootBy_nil (lf : ByteArray → ByteArray) : rootBy lf [] = sha [] := by
  rw [rootBy]
  simp
theorem rootBy_one (lf : ByteArray → ByteArray) (a : ByteArray) : rootBy lf [a] = lf a := by
  rw [rootBy]
  simp
theorem rootBy_more (lf : ByteArray → ByteArray) {l : List ByteArray} (h : 2 ≤ l.length) : rootBy lf l = nodeH (rootBy lf (l.take (half l.length))) (rootBy lf (l.drop (half l.length))) := by
  rw [rootBy, dif_pos h]
theorem list_one {l : List ByteArray} (h : l.length = 1) : ∃ a, l = [a] := by
  match l, h with
  | [a], _ => exact ⟨a, rfl⟩
theorem rootBy_size (lf : ByteArray → ByteArray) (b : Nat) (hb : 32 ≤ b) (l : List ByteArray) (hl : ∀ x ∈ l, (lf x).size ≤ b) : (rootBy lf l).size ≤ b := by
  by_cases h : 2 ≤ l.length
  · rw [rootBy_more lf h, nodeH_size]
    exact hb
  · match l, h with
    | [], _ => rw [rootBy_nil, sha_size]; exact hb
    | [a], _ => rw [rootBy_one]; exact hl a (by simp)
    | _ :: _ :: _, h => simp at h
theorem cut_parts (l : List ByteArray) (h : 2 ≤ l.length) : 1 ≤ (l.take (half l.length)).length ∧ (l.take (half l.length)).length < l.length ∧ 1 ≤ (l.drop (half l.length)).length ∧ (l.drop (half l.length)).length < l.length := by
  have h1 := half_pos l.length
  have h2 := half_lt h
  simp
  omega
end Go.Proofs.Ytjnnglphdaemaaa.Q
end

section
-- Written by a program of this session (wip/tools/pp.sh) over the print of the kit.
namespace Go.Proofs.Ytjnnglphdaemaaa.Q
open Go.RowKit Go.Proofs.YtjnnglphdaemaaaW.PrintWords Go.Proofs.YtjnnglphdaemaaaW.PrintLast Go.Proofs.YtjnnglphdaemaaaW.PrintMore
attribute [local go_sem] max2_int min2_int max_two min_two max_three min_three max_four min_four   -- for this text's walks alone
set_option linter.unusedVariables false
set_option linter.unusedSimpArgs false
mutual
def spec_PutNum.j0 : Nat → Int → List Int → Option (List Int)
 | 0, _, _ => none
 | k + 1, x1, x5 => if x1 < 0 then (spec_PutNum.j1 k 0 x5) else (spec_PutNum.j1 k x1 x5)
def spec_PutNum.j1 : Nat → Int → List Int → Option (List Int)
 | 0, _, _ => none
 | k + 1, x1, x5 => spec_PutNum.l0 k x1 x5
def spec_PutNum.l0 : Nat → Int → List Int → Option (List Int)
 | 0, _, _ => none
 | k + 1, x1, x5 => if x1 > 127 then (if x5.length < 140737488355328 then (spec_PutNum.l0 k (x1 / 128) (x5 ++ [(Go.bits .or .i64 (Go.bits .and .i64 x1 127) 128) % 256])) else (none)) else (if x5.length < 140737488355328 then (some (x5 ++ [(x1) % 256])) else (none))
end
def spec_PutNum.f (k : Nat) (l0 : List Int) (a1 : Int) : Option (List Int) := (some (([] : List Int) : List Int)).bind fun y601 => (if y601.length + l0.length < 140737488355328 then ((some (y601 ++ l0 : List Int)).bind fun y604 => (if a1 > 1000000000 then (spec_PutNum.j0 k 1000000000 y604) else (spec_PutNum.j0 k a1 y604))) else (none))
theorem spec_PutNum.mono_l : ∀ k, (∀ y0 y1, LeO (spec_PutNum.j0 k y0 y1) (spec_PutNum.j0 (k + 1) y0 y1)) ∧ (∀ y0 y1, LeO (spec_PutNum.j1 k y0 y1) (spec_PutNum.j1 (k + 1) y0 y1)) ∧ (∀ y0 y1, LeO (spec_PutNum.l0 k y0 y1) (spec_PutNum.l0 (k + 1) y0 y1))
 | 0 => ⟨fun _ _ r h => by simp [spec_PutNum.j0] at h, fun _ _ r h => by simp [spec_PutNum.j1] at h, fun _ _ r h => by simp [spec_PutNum.l0] at h⟩
 | k + 1 => by
  obtain ⟨ih0, ih1, ih2⟩ := spec_PutNum.mono_l k
  refine ⟨?_, ?_, ?_⟩
  ·intro y0 y1
   unfold spec_PutNum.j0
   repeat' (with_reducible first | exact LeO.refl _ | exact LeO.none _ | apply ih0 | apply ih1 | apply ih2 | apply LeO.ite | refine LeO.bind ?_ fun _ => ?_)
  ·intro y0 y1
   unfold spec_PutNum.j1
   repeat' (with_reducible first | exact LeO.refl _ | exact LeO.none _ | apply ih0 | apply ih1 | apply ih2 | apply LeO.ite | refine LeO.bind ?_ fun _ => ?_)
  ·intro y0 y1
   unfold spec_PutNum.l0
   repeat' (with_reducible first | exact LeO.refl _ | exact LeO.none _ | apply ih0 | apply ih1 | apply ih2 | apply LeO.ite | refine LeO.bind ?_ fun _ => ?_)
theorem spec_PutNum.mono : ∀ a0 a1 k, LeO (spec_PutNum.f k a0 a1) (spec_PutNum.f (k + 1) a0 a1) := by
 intro a0 a1 k
 obtain ⟨ih0, ih1, ih2⟩ := spec_PutNum.mono_l k
 unfold spec_PutNum.f
 repeat' (with_reducible first | exact LeO.refl _ | exact LeO.none _ | apply ih0 | apply ih1 | apply ih2 | apply LeO.ite | refine LeO.bind ?_ fun _ => ?_)
set_option maxHeartbeats 8000000 in
set_option maxRecDepth 100000 in
theorem spec_PutNum.calls (k : Nat) (A0 : Option Addr) (c0 : Nat) (l0 : List Int) (a1 : Int) (r : List Int) (w : World) (hr0 : Kd.C (Kd.int .u8) w A0 l0.length l0) (hc0 : l0.length ≤ c0) (h : spec_PutNum.f k l0 a1 = some r) :
  Calls Try.prog 139 #[.slice A0 l0.length c0, .int .i64 a1] w fun e w' => ∃ v0_ : Value, e = .returned (v0_) ∧ Kd.R (Kd.int .u8) 5 w' w.heap.size (fun _ => True) v0_ r ∧ Below w.heap.size w w' := by
 have HR0 := Aside0.mk hr0
 have HC0 := Aside0.mk hc0
 clear hr0 hc0
 have HB := Aside0.mk (Below.refl w.heap.size w)
 have H : ((some (([] : List Int) : List Int)).bind fun y601 => (if y601.length + l0.length < 140737488355328 then ((some (y601 ++ l0 : List Int)).bind fun y604 => (if a1 > 1000000000 then (spec_PutNum.j0 k 1000000000 y604) else (spec_PutNum.j0 k a1 y604))) else (none))) = some r := h
 clear h
 obtain ⟨y601, Ny601, H⟩ := sb_ (([] : List Int)) H
 replace H := ip_ H; obtain ⟨c3, H⟩ := H
 have LMc3 := Aside0.mk c3
 clear c3
 obtain ⟨y604, Ny604, H⟩ := sb_ (y601 ++ l0) H
 have HC4 := Aside0.mk H
 clear H
 go_enter Try.func139, Try.ntmps139
 go_upto_if 10 with (first | ((with_reducible refine gd_ 6 ?_); refine rl_ (Kd.int .u8) 5 6 ([] : List Int) [] ?_; intro v602 w5 ho6 hb hg_ hnew_; clear hg_ hnew_; (first | rw [← Ny601.out] at ho6 | (simp only [Int.reduceToNat] at ho6; rw [← Ny601.out] at ho6)); have HO603 := Aside0.mk (Kd.R_lower ho6 (sz_ HB)); replace HB := ss_ HB hb; clear hb ho6) | ((with_reducible refine gate_builtin (b := .append) (xs := #[.tmp 6, .tmp 7]) rfl ?_); at_builtin; refine Kd.R_append_rows (Kd.int .u8) (w0 := w) w.heap.size rfl (.tmp 6) (.tmp 7) 22 5 (.int .u8 0) 1 rfl Try.underlying22 info5 rfl (by decide) (by omega) v602 y601 l0 _ _ _ (fun _ => True) (fun _ => False) rfl rfl ?aO ?aR (fun _ _ h => h) (fun _ h => h.elim) ?aF ?aB ?aS ?aL ?_; (case aR => exact cb_ HR0 HB); (case aB => exact (bw_ HB)); (case aF => exact (fun _ _ => trivial)); (case aO => exact (kr_ HO603.out)); (case aS => exact (sz_ HB)); (case aL => have := LMc3.out; omega); intro v605 w7 ho hb hg hat; rw [← Ny604.out] at ho; replace HB := Aside0.mk hb; have HO606 := Aside0.mk ho; clear HO603; clear ho hb hg hat))
 (try simp only [Act.put, List.setIfInBounds_toArray, List.set_cons_zero, List.set_cons_succ])
 go_cut [1] (fun v1 wc => ∃ (kq : Nat) (x1_3 : Int), v1 = .int .i64 x1_3 ∧ Aside0 (spec_PutNum.j0 kq x1_3 y604 = some r) ∧ Aside0 (kq ≤ k) ∧ Aside0 (Kd.R (Kd.int .u8) 5 wc w.heap.size (fun _ => True) v605 y604) ∧ Aside0 (Below w.heap.size w wc))
 case first =>
  have H := HC4.out
  clear HC4
  replace H := it_ H; obtain ⟨c8, H⟩ | ⟨c8, H⟩ := H
  ·have c8b0 : decide (1000000000 < a1) = true := decide_eq_true c8
   clear c8
   (first | rw [c8b0] | (simp only [i64_w, i32_w]; rw [c8b0]) | skip)
   have H' := Aside0.mk H
   clear H
   go_wp2
   go_meet
   case rel => exact ⟨_, (1000000000), e1_, H', ⟨le_⟩, ⟨kr_ HO606.out⟩, ⟨bw_ HB⟩⟩
  ·have c8b0 : decide (1000000000 < a1) = false := decide_eq_false c8
   clear c8
   (first | rw [c8b0] | (simp only [i64_w, i32_w]; rw [c8b0]) | skip)
   have H' := Aside0.mk H
   clear H
   go_wp2
   go_meet
   case rel => exact ⟨_, (a1), e1_, H', ⟨le_⟩, ⟨kr_ HO606.out⟩, ⟨bw_ HB⟩⟩
 case rest =>
  clear HC4
  try clear c3
  obtain ⟨kq, x1_3, rfl, HA, HJ3, HO_5, HB⟩ := hcut
  cases kq with
  | zero => exact absurd HA.out (by simp [spec_PutNum.j0])
  | succ kj3 =>
   have H := HA.out
   clear HA
   simp only [spec_PutNum.j0] at H
   have HC9 := Aside0.mk H
   clear H
   go_upto_if 12 with (fail)
   go_cut [1] (fun v1 wc => ∃ (kq : Nat) (x1_8 : Int), v1 = .int .i64 x1_8 ∧ Aside0 (spec_PutNum.j1 kq x1_8 y604 = some r) ∧ Aside0 (kq ≤ kj3) ∧ Aside0 (Kd.R (Kd.int .u8) 5 wc w.heap.size (fun _ => True) v605 y604) ∧ Aside0 (Below w.heap.size w wc))
   case first =>
    have H := HC9.out
    clear HC9
    replace H := itd_ H; obtain ⟨c10b0, H⟩ | ⟨c10b0, H⟩ := H
    ·(first | rw [c10b0] | (simp only [i64_w, i32_w]; rw [c10b0]) | skip)
     have H' := Aside0.mk H
     clear H
     go_wp2
     go_meet
     case rel => exact ⟨_, (0), e1_, H', ⟨by have := HJ3.out; first | omega | exact Nat.le_refl _⟩, ⟨kr_ HO_5.out⟩, ⟨bw_ HB⟩⟩
    ·(first | rw [c10b0] | (simp only [i64_w, i32_w]; rw [c10b0]) | skip)
     have H' := Aside0.mk H
     clear H
     go_wp2
     go_meet
     case rel => exact ⟨_, (x1_3), e1_, H', ⟨by have := HJ3.out; first | omega | exact Nat.le_refl _⟩, ⟨kr_ HO_5.out⟩, ⟨bw_ HB⟩⟩
   case rest =>
    clear HC9
    try clear c1
    try clear p2
    try clear c3
    try clear c8
    try clear c8b0
    obtain ⟨kq, x1_8, rfl, HA, HJ8, HO_5, HB⟩ := hcut
    cases kq with
    | zero => exact absurd HA.out (by simp [spec_PutNum.j1])
    | succ kj8 =>
     have H := HA.out
     clear HA
     simp only [spec_PutNum.j1] at H
     have H' := Aside0.mk H
     clear H
     go_wp2
     go_loopg [1, 5] kj8 (fun kq v1 v5 w' => ∃ (x1_3 : Int) (x5_3 : List Int), v1 = .int .i64 x1_3 ∧ Aside0 (spec_PutNum.l0 kq x1_3 x5_3 = some r) ∧ Aside0 (kq ≤ kj8) ∧ Aside0 (Kd.R (Kd.int .u8) 5 w' w.heap.size (fun _ => True) v5 x5_3) ∧ Aside0 (Below w.heap.size w w'))
     case atStart => exact ⟨(x1_8), (y604), e1_, H', ⟨Nat.le_refl _⟩, ⟨kr_ HO_5.out⟩, ⟨bw_ HB⟩⟩
     case round =>
      clear H'
      try clear c1
      try clear p2
      try clear c3
      try clear c8
      try clear c8b0
      try clear c10
      try clear c10b0
      obtain ⟨x1_3, x5_3, rfl, HA, HK3, HO_5, HB⟩ := hrel
      cases gk with
      | zero => exact absurd HA.out (by simp [spec_PutNum.l0])
      | succ k3 =>
       have H := HA.out
       clear HA
       simp only [spec_PutNum.l0] at H
       replace H := it_ H; obtain ⟨c11, H⟩ | ⟨c11, H⟩ := H
       ·have c11b0 : decide (127 < x1_3) = true := decide_eq_true c11
        clear c11
        replace H := ip_ H; obtain ⟨c12, H⟩ := H
        have LMc12 := Aside0.mk c12
        clear c12
        obtain ⟨y607, hy607⟩ : ∃ y_ : List Int, y_ = (x5_3 ++ [(Go.bits .or .i64 (Go.bits .and .i64 x1_3 127) 128) % 256]) := ⟨_, rfl⟩
        replace H : (spec_PutNum.l0 k3 (x1_3 / 128) y607) = some r := yh_ hy607 H
        have Ny607 := Aside0.mk hy607
        clear hy607
        have H' := Aside0.mk H
        clear H
        go_wp2_with (first | ((with_reducible refine gate_builtin (b := .append) (xs := #[.tmp 15, .tmp 20]) rfl ?_); at_builtin; refine Kd.R_append (Kd.int .u8) (w0 := w) w.heap.size rfl (.tmp 15) (.tmp 20) 22 5 (.int .u8 0) 1 rfl Try.underlying22 info5 rfl (by decide) (by omega) u5 x5_3 ((Go.bits .or .i64 (Go.bits .and .i64 x1_3 127) 128) % 256) [.int .u8 ((Go.bits .or .i64 (Go.bits .and .i64 x1_3 127) 128) % 256)] (fun _ => True) (fun _ => False) rfl rfl ?aP (fun _ hk => hk.elim) ?aF ?aO ?aB ?aS ?aL ?_; (case aP => exact rfl); (case aB => exact (bw_ HB)); (case aF => exact (fun _ _ => trivial)); (case aO => exact (kr_ HO_5.out)); (case aS => exact (sz_ HB)); (case aL => have := LMc12.out; omega); intro v608 w13 ho hb hg hat; rw [← Ny607.out] at ho; replace HB := Aside0.mk hb; have HO609 := Aside0.mk ho; clear HO_5; clear ho hb hg hat))
        go_roundg k3
        case measure => have := HJ3.out; have := HJ8.out; have := HK3.out; omega
        case rel => exact ⟨(x1_3 / 128), (y607), e1_, H', ⟨by have := HJ3.out; have := HJ8.out; have := HK3.out; omega⟩, ⟨kr_ HO609.out⟩, ⟨bw_ HB⟩⟩
       ·have c11b0 : decide (127 < x1_3) = false := decide_eq_false c11
        clear c11
        replace H := ip_ H; obtain ⟨c14, H⟩ := H
        have LMc14 := Aside0.mk c14
        clear c14
        obtain ⟨y610, hy610⟩ : ∃ y_ : List Int, y_ = (x5_3 ++ [(x1_3) % 256]) := ⟨_, rfl⟩
        replace H : (some y610) = some r := yh_ hy610 H
        have Ny610 := Aside0.mk hy610
        clear hy610
        obtain rfl := Option.some.inj H
        go_wp2_with (first | ((with_reducible refine gate_builtin (b := .append) (xs := #[.tmp 24, .tmp 27]) rfl ?_); at_builtin; refine Kd.R_append (Kd.int .u8) (w0 := w) w.heap.size rfl (.tmp 24) (.tmp 27) 22 5 (.int .u8 0) 1 rfl Try.underlying22 info5 rfl (by decide) (by omega) u5 x5_3 ((x1_3) % 256) [.int .u8 ((x1_3) % 256)] (fun _ => True) (fun _ => False) rfl rfl ?aP (fun _ hk => hk.elim) ?aF ?aO ?aB ?aS ?aL ?_; (case aP => exact rfl); (case aB => exact (bw_ HB)); (case aF => exact (fun _ _ => trivial)); (case aO => exact (kr_ HO_5.out)); (case aS => exact (sz_ HB)); (case aL => have := LMc14.out; omega); intro v611 w15 ho hb hg hat; rw [← Ny610.out] at ho; replace HB := Aside0.mk hb; have HO612 := Aside0.mk ho; clear HO_5; clear ho hb hg hat))
        go_ret
        exact ⟨_, e2_, kr_ HO612.out, bw_ HB⟩
end Go.Proofs.Ytjnnglphdaemaaa.Q
end

section
-- Written by a program of this session (wip/tools/pp.sh) over the print of the kit.
namespace Go.Proofs.Ytjnnglphdaemaaa.Q
open Go.RowKit Go.Proofs.YtjnnglphdaemaaaW.PrintWords Go.Proofs.YtjnnglphdaemaaaW.PrintLast Go.Proofs.YtjnnglphdaemaaaW.PrintMore
attribute [local go_sem] max2_int min2_int max_two min_two max_three min_three max_four min_four   -- for this text's walks alone
set_option linter.unusedVariables false
set_option linter.unusedSimpArgs false
def impl_putNum.l0 : Nat → List Int → Int → Option (List Int)
 | 0, _, _ => none
 | k + 1, x0, x1 => if x1 > 127 then (if x0.length < 140737488355328 then (impl_putNum.l0 k (x0 ++ [(Go.bits .or .i64 128 (Go.bits .and .i64 x1 127)) % 256]) (x1 / 128)) else (none)) else (if x0.length < 140737488355328 then (some (x0 ++ [(x1) % 256])) else (none))
def impl_putNum.f (k : Nat) (l0 : List Int) (a1 : Int) : Option (List Int) := impl_putNum.l0 k l0 (mx 0 (mn a1 1000000000))
theorem impl_putNum.mono_l : ∀ k, (∀ y0 y1, LeO (impl_putNum.l0 k y0 y1) (impl_putNum.l0 (k + 1) y0 y1))
 | 0 => fun _ _ r h => by simp [impl_putNum.l0] at h
 | k + 1 => by
  have ih0 := impl_putNum.mono_l k
  ·intro y0 y1
   unfold impl_putNum.l0
   repeat' (with_reducible first | exact LeO.refl _ | exact LeO.none _ | apply ih0 | apply LeO.ite | refine LeO.bind ?_ fun _ => ?_)
theorem impl_putNum.mono : ∀ a0 a1 k, LeO (impl_putNum.f k a0 a1) (impl_putNum.f (k + 1) a0 a1) := by
 intro a0 a1 k
 have ih0 := impl_putNum.mono_l k
 unfold impl_putNum.f
 repeat' (with_reducible first | exact LeO.refl _ | exact LeO.none _ | apply ih0 | apply LeO.ite | refine LeO.bind ?_ fun _ => ?_)
set_option maxHeartbeats 8000000 in
set_option maxRecDepth 100000 in
theorem impl_putNum.calls (k : Nat) (P0_ : Nat → Prop) (u9000_ : Value) (l0 : List Int) (a1 : Int) (r : List Int) (w0 w : World) (hB : Below w0.heap.size w0 w) (ho0 : Kd.R (Kd.int .u8) 5 w w0.heap.size P0_ u9000_ l0) (h : impl_putNum.f k l0 a1 = some r) :
  Calls Try.prog 145 #[u9000_, .int .i64 a1] w fun e w' => ∃ v0_ : Value, e = .returned (v0_) ∧ Kd.R (Kd.int .u8) 5 w' w0.heap.size (fun k_ => (P0_ k_ ∨ w.heap.size ≤ k_)) v0_ r ∧ Below w0.heap.size w0 w' ∧ Kept w w' (fun k_ => P0_ k_) := by
 have HO0 := Aside0.mk (show Kd.R (Kd.int .u8) 5 w w0.heap.size (fun k_ => (P0_ k_ ∨ w.heap.size ≤ k_)) u9000_ l0 from Kd.R_mono ho0 (fun k_ hk => (.inl hk)))
 have HK := Aside0.mk (Kept.refl w (fun k_ => P0_ k_))
 have HW0 := Aside0.mk hB.size
 have HB := Aside0.mk hB
 clear hB
 have H : (impl_putNum.l0 k l0 (mx 0 (mn a1 1000000000))) = some r := h
 clear h
 generalize hji3 : (mn a1 1000000000) = ji3 at H
 (try (have hji3h : ji3 ≤ 1000000000 := by (rw [← hji3]; unfold mn; (repeat' split) <;> omega)))
 (try (have hji3g : ji3 ≤ 64 := by omega))
 have hji3_ : (if 1000000000 < a1 then 1000000000 else a1) = ji3 := hji3
 generalize hji4 : (mx 0 (ji3)) = ji4 at H
 have hji4_ : (if 0 < (ji3) then (ji3) else 0) = ji4 := hji4
 have H' := Aside0.mk H
 clear H
 go_enter Try.func145, Try.ntmps145
 go_wp2
 go_loopg [0, 1] k (fun kq v0 v1 w' => ∃ (x0_1 : List Int) (x1_1 : Int), v1 = .int .i64 x1_1 ∧ Aside0 (impl_putNum.l0 kq x0_1 x1_1 = some r) ∧ Aside0 (kq ≤ k) ∧ Aside0 (Kd.R (Kd.int .u8) 5 w' w0.heap.size (fun k_ => (P0_ k_ ∨ w.heap.size ≤ k_)) v0 x0_1) ∧ Aside0 (Kept w w' (fun k_ => P0_ k_)) ∧ Aside0 (Below w0.heap.size w0 w'))
 case atStart => exact ⟨(l0), (ji4), (by first | rfl | (simp; done) | (simp only [← hji4] <;> (first | rfl | simp)) | (simp [*]; done)), H', ⟨Nat.le_refl _⟩, ⟨kr_ HO0.out⟩, ⟨by repeat (first | (with_reducible first | exact HK.out | apply Kept.alloc | apply Kept.drewN | apply Kept.drew) | exact HK.out)⟩, ⟨bw_ HB⟩⟩
 case round =>
  clear H'
  obtain ⟨x0_1, x1_1, rfl, HA, HK1, HO_0, HK, HB⟩ := hrel
  cases gk with
  | zero => exact absurd HA.out (by simp [impl_putNum.l0])
  | succ k1 =>
   have H := HA.out
   clear HA
   simp only [impl_putNum.l0] at H
   replace H := it_ H; obtain ⟨c5, H⟩ | ⟨c5, H⟩ := H
   ·have c5b0 : decide (127 < x1_1) = true := decide_eq_true c5
    clear c5
    replace H := ip_ H; obtain ⟨c6, H⟩ := H
    have LMc6 := Aside0.mk c6
    clear c6
    obtain ⟨y601, hy601⟩ : ∃ y_ : List Int, y_ = (x0_1 ++ [(Go.bits .or .i64 128 (Go.bits .and .i64 x1_1 127)) % 256]) := ⟨_, rfl⟩
    replace H : (impl_putNum.l0 k1 y601 (x1_1 / 128)) = some r := yh_ hy601 H
    have Ny601 := Aside0.mk hy601
    clear hy601
    have H' := Aside0.mk H
    clear H
    go_wp2_with (first | ((with_reducible refine gate_builtin (b := .append) (xs := #[.tmp 10, .tmp 15]) rfl ?_); at_builtin; refine Kd.R_append (Kd.int .u8) (w0 := w0) w0.heap.size rfl (.tmp 10) (.tmp 15) 22 5 (.int .u8 0) 1 rfl Try.underlying22 info5 rfl (by decide) (by omega) u0 x0_1 ((Go.bits .or .i64 128 (Go.bits .and .i64 x1_1 127)) % 256) [.int .u8 ((Go.bits .or .i64 128 (Go.bits .and .i64 x1_1 127)) % 256)] (fun k_ => (P0_ k_ ∨ w.heap.size ≤ k_)) (fun _ => False) rfl rfl ?aP (fun _ hk => hk.elim) ?aF ?aO ?aB ?aS ?aL ?_; (case aP => exact rfl); (case aB => exact (bw_ HB)); (case aF => exact (fun k_ hk => (.inr (Nat.le_trans (by first | exact HK.out.1 | exact (show Kept w _ (fun k_ => P0_ k_) from by repeat (first | (with_reducible first | exact HK.out | apply Kept.alloc | apply Kept.drewN | apply Kept.drew) | exact HK.out)).1) hk)))); (case aO => exact (kr_ HO_0.out)); (case aS => exact (sz_ HB)); (case aL => have := LMc6.out; omega); intro v602 w7 ho hb hg hat; rw [← Ny601.out] at ho; replace HB := Aside0.mk hb; replace HK := Aside0.mk (Kept.of_grown (S := (fun k_ => P0_ k_)) hg (by repeat (first | (with_reducible first | exact HK.out | apply Kept.alloc | apply Kept.drewN | apply Kept.drew) | exact HK.out)) (fun k_ e_ => (HO_0.out.1 k_ e_))); have HO603 := Aside0.mk ho; clear HO_0; clear ho hb hg hat))
    go_roundg k1
    case measure => have := HK1.out; omega
    case rel => exact ⟨(y601), (x1_1 / 128), e1_, H', ⟨by have := HK1.out; omega⟩, ⟨kr_ HO603.out⟩, ⟨by repeat (first | (with_reducible first | exact HK.out | apply Kept.alloc | apply Kept.drewN | apply Kept.drew) | exact HK.out)⟩, ⟨bw_ HB⟩⟩
   ·have c5b0 : decide (127 < x1_1) = false := decide_eq_false c5
    clear c5
    replace H := ip_ H; obtain ⟨c8, H⟩ := H
    have LMc8 := Aside0.mk c8
    clear c8
    obtain ⟨y604, hy604⟩ : ∃ y_ : List Int, y_ = (x0_1 ++ [(x1_1) % 256]) := ⟨_, rfl⟩
    replace H : (some y604) = some r := yh_ hy604 H
    have Ny604 := Aside0.mk hy604
    clear hy604
    obtain rfl := Option.some.inj H
    go_wp2_with (first | ((with_reducible refine gate_builtin (b := .append) (xs := #[.tmp 19, .tmp 22]) rfl ?_); at_builtin; refine Kd.R_append (Kd.int .u8) (w0 := w0) w0.heap.size rfl (.tmp 19) (.tmp 22) 22 5 (.int .u8 0) 1 rfl Try.underlying22 info5 rfl (by decide) (by omega) u0 x0_1 ((x1_1) % 256) [.int .u8 ((x1_1) % 256)] (fun k_ => (P0_ k_ ∨ w.heap.size ≤ k_)) (fun _ => False) rfl rfl ?aP (fun _ hk => hk.elim) ?aF ?aO ?aB ?aS ?aL ?_; (case aP => exact rfl); (case aB => exact (bw_ HB)); (case aF => exact (fun k_ hk => (.inr (Nat.le_trans (by first | exact HK.out.1 | exact (show Kept w _ (fun k_ => P0_ k_) from by repeat (first | (with_reducible first | exact HK.out | apply Kept.alloc | apply Kept.drewN | apply Kept.drew) | exact HK.out)).1) hk)))); (case aO => exact (kr_ HO_0.out)); (case aS => exact (sz_ HB)); (case aL => have := LMc8.out; omega); intro v605 w9 ho hb hg hat; rw [← Ny604.out] at ho; replace HB := Aside0.mk hb; replace HK := Aside0.mk (Kept.of_grown (S := (fun k_ => P0_ k_)) hg (by repeat (first | (with_reducible first | exact HK.out | apply Kept.alloc | apply Kept.drewN | apply Kept.drew) | exact HK.out)) (fun k_ e_ => (HO_0.out.1 k_ e_))); have HO606 := Aside0.mk ho; clear HO_0; clear ho hb hg hat))
    go_ret
    exact ⟨_, by first | rfl | (simp [errW_none, errW_some] <;> rfl) | (simp only [← hji3, ← hji4]; first | rfl | (simp [errW_none, errW_some] <;> rfl)) | (simp [*, errW_none, errW_some] <;> rfl), kr_ HO606.out, bw_ HB, by repeat (first | (with_reducible first | exact HK.out | apply Kept.alloc | apply Kept.drewN | apply Kept.drew) | exact HK.out)⟩
end Go.Proofs.Ytjnnglphdaemaaa.Q
end

section
-- Written by a program of this session (wip/tools/pp.sh) over the print of the kit.
namespace Go.Proofs.Ytjnnglphdaemaaa.Q
open Go.RowKit Go.Proofs.YtjnnglphdaemaaaW.PrintWords Go.Proofs.YtjnnglphdaemaaaW.PrintLast Go.Proofs.YtjnnglphdaemaaaW.PrintMore
attribute [local go_sem] max2_int min2_int max_two min_two max_three min_three max_four min_four   -- for this text's walks alone
set_option linter.unusedVariables false
set_option linter.unusedSimpArgs false
def spec_PutText.f (k : Nat) (l0 : List Int) (a1 : ByteArray) : Option (List Int) := (spec_PutNum.f k l0 (a1.size : Int)).bind fun t601 => (if t601.length + a1.size < 140737488355328 then (some (t601 ++ bytesOf a1)) else (none))
theorem spec_PutText.mono : ∀ a0 a1 k, LeO (spec_PutText.f k a0 a1) (spec_PutText.f (k + 1) a0 a1) := by
 intro a0 a1 k
 unfold spec_PutText.f
 repeat' (with_reducible first | exact LeO.refl _ | exact LeO.none _ | apply spec_PutNum.mono | apply LeO.ite | refine LeO.bind ?_ fun _ => ?_)
set_option maxHeartbeats 8000000 in
set_option maxRecDepth 100000 in
theorem spec_PutText.calls (k : Nat) (A0 : Option Addr) (c0 : Nat) (l0 : List Int) (a1 : ByteArray) (r : List Int) (w : World) (hr0 : Kd.C (Kd.int .u8) w A0 l0.length l0) (hc0 : l0.length ≤ c0) (h : spec_PutText.f k l0 a1 = some r) :
  Calls Try.prog 138 #[.slice A0 l0.length c0, .string a1] w fun e w' => ∃ v0_ : Value, e = .returned (v0_) ∧ Kd.R (Kd.int .u8) 5 w' w.heap.size (fun _ => True) v0_ r ∧ Below w.heap.size w w' := by
 have HR0 := Aside0.mk hr0
 have HC0 := Aside0.mk hc0
 clear hr0 hc0
 have HB := Aside0.mk (Below.refl w.heap.size w)
 have H : ((spec_PutNum.f k l0 (a1.size : Int)).bind fun t601 => (if t601.length + a1.size < 140737488355328 then (some (t601 ++ bytesOf a1)) else (none))) = some r := h
 clear h
 replace H := bi_ H; obtain ⟨t601, A3, H⟩ := H
 replace H := ip_ H; obtain ⟨c4, H⟩ := H
 have LMc4 := Aside0.mk c4
 clear c4
 obtain ⟨y604, hy604⟩ : ∃ y_ : List Int, y_ = (t601 ++ bytesOf a1) := ⟨_, rfl⟩
 replace H : (some y604) = some r := yh_ hy604 H
 have Ny604 := Aside0.mk hy604
 clear hy604
 obtain rfl := Option.some.inj H
 go_enter Try.func138, Try.ntmps138
 go_wp2_with (first | ((with_reducible refine gq_ 139 8 ?_); refine gc_ 8 Try.func139 (spec_PutNum.calls k _ _ l0 (a1.size : Int) t601 _ (cr_ HR0.out) HC0.out A3.out) ?_; rintro e w5 ⟨v602, rfl, ho0, hb⟩; refine ⟨_, rfl, ?_⟩; have HO603 := Aside0.mk (Kd.R_lower ho0 (sz_ HB)); replace HB := ss_ HB hb; clear hb ho0) | (at_builtin; refine print_append_str (w0 := w) w.heap.size rfl (.tmp 8) _ 22 9 5 rfl Try.underlying22 Try.underlying9 info5 v602 t601 a1 rfl rfl ?aO ?aB ?aS ?aL ?_; (case aB => exact (bw_ HB)); (case aO => exact (Kd.own_of_R (kr_ HO603.out))); (case aS => exact (sz_ HB)); (case aL => have := LMc4.out; omega); intro v605 w6 ho0 hb hg; have ho := Kd.R_of_own (h1 := fun _ => rfl) (ok := fun _ => True) ho0 (fun _ _ => trivial); clear ho0; have hat := True.intro; rw [← Ny604.out] at ho; change Kd.R (Kd.int .u8) 5 w6 w.heap.size (fun _ => True) v605 y604 at ho; replace HB := Aside0.mk hb; have HO606 := Aside0.mk ho; clear HO603; clear ho hb hg hat))
 go_ret
 exact ⟨_, e2_, kr_ HO606.out, bw_ HB⟩
end Go.Proofs.Ytjnnglphdaemaaa.Q
end

section
/- append([]byte, s...), s a string, with a word on where the new row lies. -/
namespace Go.Proofs.YtjnnglphdaemaaaW.PrintMore
open Go Go.Lib Go.RowKit Go.Proofs.YtjnnglphdaemaaaW.PrintWords
set_option linter.unusedVariables false
set_option linter.unusedSimpArgs false

theorem append_str_hat {P : Program} (w : World) (base : Nat) (t u ty e : TypeId) (i : TypeInfo) (ht : P.underlying t = some (.slice e)) (hu : P.underlying u = some .string) (hi : P.info? e = some i) (hz : i.zero = some (.int .u8 0))
    (hsize : i.size = 1) (hby : i.bytes = 1) (v : Value) (n : Nat) (xs : List Value) (hown : w.ownsRow base e 1 v n xs) (s : ByteArray) (hbytes : n + s.size ≤ 140737488355328) {v' : Value} {w' : World}
    (hr : (Builtin.append_ #[t, u] ty #[v, .string s]).run P w = .ok v' w') : v'.ownBlock = v.ownBlock ∨ ∃ b, v'.ownBlock = some b ∧ w.heap.size ≤ b := by
  have hxl : xs.length = n := by simpa using hown.1
  rcases hown.2 with ⟨rfl, rfl⟩ | ⟨g, cap, cur, rfl, hbg, hg, hnc, hcm, hcs, htake⟩
  · by_cases hm : s.size = 0
    · have hf := Lib.run_firstCells_string (P := P) w 1 s
      rw [hm] at hf
      simp [Builtin.append_, run_underlying ht, run_underlying hu, sizeOf, typeInfo, hi, hsize, Builtin.lenOf, hm, hf] at hr
      left
      rw [← hr.1]
    · have h2 := run_append_nil_string (P := P) w t u ty e i (.int .u8 0) ht hu hi hz s (by omega) (by omega) (by rw [hby]; omega)
      rw [h2] at hr
      cases hr
      exact .inr ⟨w.heap.size, rfl, Nat.le_refl _⟩
  · by_cases hroom : n + s.size ≤ cap
    · have h2 := Lib.run_append_room_string (P := P) w t u ty e i ht hu hi hsize g n cap cur hg s hroom (by omega)
      rw [h2] at hr
      cases hr
      exact .inl rfl
    · have holds : ∀ j u, xs[j]? = some u → w.cell? ((⟨g, 0, none⟩ : Addr).add j) = some u := hown.cells (g := g) rfl
      have h2 := Lib.run_append_grow_string (P := P) w t u ty e i (.int .u8 0) ht hu hi hz ⟨g, 0, none⟩ n cap xs (by rw [hsize]; simpa using hxl) holds s (by omega) (by omega) (by rw [hby]; exact growslice_fits (by omega) (by omega))
      rw [h2] at hr
      cases hr
      exact .inr ⟨w.heap.size, rfl, Nat.le_refl _⟩
section
variable {P : Program} {ops : Array Oper} {rest : List Oper} {o : Oper} {a : Act} {Q : Exit → Act → World → Prop}
theorem print_append_strR {w0 W : World} (base : Nat) (hgd : o.guard = none) (s x : Operand) (t u e : TypeId)
    (ho : o.op = .call { callee := .builtin .append, args := #[s, x], argTypes := #[t, u] })
    (ht : P.underlying t = some (.slice e)) (hu : P.underlying u = some .string) (hinfo : (P.info? e).map (fun i => (i.zero, i.size, i.bytes)) = some (some (.int .u8 0), 1, 1))
    (v : Value) (xs : List Int) (y : ByteArray) (ok : Nat → Prop) (hs : a.eval s = v) (hx : a.eval x = .string y) (hfresh : ∀ k, W.heap.size ≤ k → ok k)
    (HO : Kd.R (Kd.int .u8) e W base ok v xs) (HB : Below base w0 W) (hbase : base ≤ W.heap.size) (hl : xs.length + y.size ≤ 140737488355328)
    (h : ∀ v1 w1, Kd.R (Kd.int .u8) e w1 base ok v1 (xs ++ bytesOf y) → Below base w0 w1 → W.grownBy w1 v.ownBlock → (v1.ownBlock = v.ownBlock ∨ ∃ b, v1.ownBlock = some b ∧ W.heap.size ≤ b) → wpList P ops Q rest (a.put o.dst v1) w1) :
    wpList P ops Q (o :: rest) a W := by
  obtain ⟨i0, hi, hzz⟩ := Option.map_eq_some_iff.1 hinfo
  simp only [Prod.mk.injEq] at hzz
  obtain ⟨hz0, hz1, hz2⟩ := hzz
  have hO := Kd.own_of_R HO
  refine wpList_plain hgd fun K hK => ?_
  obtain ⟨v', w', hr, h2, h3, h4⟩ := Lib.run_append_own_string (P := P) W base t u o.type e i0 ht hu hi hz0 hz1 hz2 v xs.length _ hO y (by simp only [maxLen]; omega) hl hbase
  have hat := append_str_hat W base t u o.type e i0 ht hu hi hz0 hz1 hz2 v xs.length _ hO y hl hr
  have hl2 : (xs ++ bytesOf y).length = xs.length + y.size := by rw [List.length_append, bytesOf_length]
  have hc : nums .u8 (xs ++ bytesOf y) = nums .u8 xs ++ Lib.strCells y := by
    rw [nums_append]
    congr 1
    simp [nums, bytesOf, Lib.strCells]
  have hR : w'.ownsRow base e 1 v' (xs ++ bytesOf y).length (nums .u8 (xs ++ bytesOf y)) := by
    rw [hl2, hc]
    exact h2
  have hB : Below base w0 w' := HB.grown h3 hbase (own_base hO)
  unfold Oper.wp execOp
  simp only [ho, resolve, invoke, builtin, Sem.run_bind, Sem.run_pure, Result.andThen_ok, List.map_toArray, List.map_cons, List.map_nil, hs, hx, hr]
  refine hK _ _ (h v' w' (Kd.R_of_own hR (fun k hk => ?_)) hB h3 hat)
  rcases hat with ha | ⟨b, ha, hb⟩
  · exact HO.1 k (by rw [← ha]; exact hk)
  · rw [ha] at hk
    cases hk
    exact hfresh _ hb
end
end Go.Proofs.YtjnnglphdaemaaaW.PrintMore
end

section
-- Written by a program of this session (wip/tools/pp.sh) over the print of the kit.
namespace Go.Proofs.Ytjnnglphdaemaaa.Q
open Go.RowKit Go.Proofs.YtjnnglphdaemaaaW.PrintWords Go.Proofs.YtjnnglphdaemaaaW.PrintLast Go.Proofs.YtjnnglphdaemaaaW.PrintMore
attribute [local go_sem] max2_int min2_int max_two min_two max_three min_three max_four min_four   -- for this text's walks alone
set_option linter.unusedVariables false
set_option linter.unusedSimpArgs false
def impl_putText.f (k : Nat) (l0 : List Int) (a1 : ByteArray) : Option (List Int) := (impl_putNum.f k l0 (a1.size : Int)).bind fun t601 => (if t601.length + a1.size < 140737488355328 then (some (t601 ++ bytesOf a1)) else (none))
theorem impl_putText.mono : ∀ a0 a1 k, LeO (impl_putText.f k a0 a1) (impl_putText.f (k + 1) a0 a1) := by
 intro a0 a1 k
 unfold impl_putText.f
 repeat' (with_reducible first | exact LeO.refl _ | exact LeO.none _ | apply impl_putNum.mono | apply LeO.ite | refine LeO.bind ?_ fun _ => ?_)
set_option maxHeartbeats 8000000 in
set_option maxRecDepth 100000 in
theorem impl_putText.calls (k : Nat) (P0_ : Nat → Prop) (u9000_ : Value) (l0 : List Int) (a1 : ByteArray) (r : List Int) (w0 w : World) (hB : Below w0.heap.size w0 w) (ho0 : Kd.R (Kd.int .u8) 5 w w0.heap.size P0_ u9000_ l0) (h : impl_putText.f k l0 a1 = some r) :
  Calls Try.prog 144 #[u9000_, .string a1] w fun e w' => ∃ v0_ : Value, e = .returned (v0_) ∧ Kd.R (Kd.int .u8) 5 w' w0.heap.size (fun k_ => (P0_ k_ ∨ w.heap.size ≤ k_)) v0_ r ∧ Below w0.heap.size w0 w' ∧ Kept w w' (fun k_ => P0_ k_) := by
 have HO0 := Aside0.mk (show Kd.R (Kd.int .u8) 5 w w0.heap.size (fun k_ => (P0_ k_ ∨ w.heap.size ≤ k_)) u9000_ l0 from Kd.R_mono ho0 (fun k_ hk => (.inl hk)))
 have HK := Aside0.mk (Kept.refl w (fun k_ => P0_ k_))
 have HW0 := Aside0.mk hB.size
 have HB := Aside0.mk hB
 clear hB
 have H : ((impl_putNum.f k l0 (a1.size : Int)).bind fun t601 => (if t601.length + a1.size < 140737488355328 then (some (t601 ++ bytesOf a1)) else (none))) = some r := h
 clear h
 replace H := bi_ H; obtain ⟨t601, A3, H⟩ := H
 replace H := ip_ H; obtain ⟨c4, H⟩ := H
 have LMc4 := Aside0.mk c4
 clear c4
 obtain ⟨y604, hy604⟩ : ∃ y_ : List Int, y_ = (t601 ++ bytesOf a1) := ⟨_, rfl⟩
 replace H : (some y604) = some r := yh_ hy604 H
 have Ny604 := Aside0.mk hy604
 clear hy604
 obtain rfl := Option.some.inj H
 obtain ⟨Ao5, co5, eo5⟩ := Kd.R_slice HO0.out
 subst eo5
 go_enter Try.func144, Try.ntmps144
 go_wp2_with (first | ((with_reducible refine gq_ 145 8 ?_); refine gc_ 8 Try.func145 (impl_putNum.calls k (fun k_ => some k_ = (.slice Ao5 l0.length co5 : Value).ownBlock) (.slice Ao5 l0.length co5) l0 (a1.size : Int) t601 w0 _ (bw_ HB) (Kd.R_tight rfl HO0.out) A3.out) ?_; rintro e w6 ⟨v602, rfl, ho0, hb, hkp⟩; refine ⟨_, rfl, ?_⟩; have HO603 := Aside0.mk (Kd.R_mono (ok' := fun k_ => (P0_ k_ ∨ w.heap.size ≤ k_)) ho0 (fun k_ hk_ => Or.elim hk_ (fun hs_ => (HO0.out.1 k_ (hs_).symm)) (fun hn_ => (.inr (Nat.le_trans (by first | exact HK.out.1 | exact (show Kept w _ (fun k_ => P0_ k_) from by repeat (first | (with_reducible first | exact HK.out | apply Kept.alloc | apply Kept.drewN | apply Kept.drew) | exact HK.out)).1) hn_))))); replace HK := Aside0.mk (Kept.then_ (S := (fun k_ => P0_ k_)) (by repeat (first | (with_reducible first | exact HK.out | apply Kept.alloc | apply Kept.drewN | apply Kept.drew) | exact HK.out)) hkp (fun k_ hs_ => (fun e_ => (HO0.out.1 k_ e_.symm)) hs_)); replace HB := Aside0.mk hb; clear HO0; clear hb hkp ho0) | (at_builtin; refine print_append_strR (w0 := w0) w0.heap.size rfl (.tmp 8) _ 22 9 5 rfl Try.underlying22 Try.underlying9 info5 v602 t601 a1 (fun k_ => (P0_ k_ ∨ w.heap.size ≤ k_)) rfl rfl ?aF ?aO ?aB ?aS ?aL ?_; (case aB => exact (bw_ HB)); (case aF => exact (fun k_ hk => (.inr (Nat.le_trans (by first | exact HK.out.1 | exact (show Kept w _ (fun k_ => P0_ k_) from by repeat (first | (with_reducible first | exact HK.out | apply Kept.alloc | apply Kept.drewN | apply Kept.drew) | exact HK.out)).1) hk)))); (case aO => exact (kr_ HO603.out)); (case aS => exact (sz_ HB)); (case aL => have := LMc4.out; omega); intro v605 w7 ho hb hg hat; rw [← Ny604.out] at ho; replace HB := Aside0.mk hb; replace HK := Aside0.mk (Kept.of_grown (S := (fun k_ => P0_ k_)) hg (by repeat (first | (with_reducible first | exact HK.out | apply Kept.alloc | apply Kept.drewN | apply Kept.drew) | exact HK.out)) (fun k_ e_ => (HO603.out.1 k_ e_))); have HO606 := Aside0.mk ho; clear HO603; clear ho hb hg hat))
 go_ret
 exact ⟨_, e2_, kr_ HO606.out, bw_ HB, by repeat (first | (with_reducible first | exact HK.out | apply Kept.alloc | apply Kept.drewN | apply Kept.drew) | exact HK.out)⟩
end Go.Proofs.Ytjnnglphdaemaaa.Q
end

section
-- Written by a program of this session (wip/tools/pp.sh) over the print of the kit.
namespace Go.Proofs.Ytjnnglphdaemaaa.Q
open Go.RowKit Go.Proofs.YtjnnglphdaemaaaW.PrintWords Go.Proofs.YtjnnglphdaemaaaW.PrintLast Go.Proofs.YtjnnglphdaemaaaW.PrintMore
attribute [local go_sem] max2_int min2_int max_two min_two max_three min_three max_four min_four   -- for this text's walks alone
set_option linter.unusedVariables false
set_option linter.unusedSimpArgs false
def spec_PutTexts.l0 : Nat → List ByteArray → List Int → Int → Option (List Int)
 | 0, _, _, _ => none
 | k + 1, x1, x5, x6 => if x6 < (x1.length : Int) then (if 0 ≤ x6 then ((spec_PutText.f k x5 (rdOf ByteArray.empty x1 x6)).bind fun t605 => (spec_PutTexts.l0 k x1 t605 (wrap64 (x6 + 1)))) else (none)) else (some x5)
def spec_PutTexts.f (k : Nat) (l0 : List Int) (l1 : List ByteArray) : Option (List Int) := (spec_PutNum.f k l0 (l1.length : Int)).bind fun t601 => (spec_PutTexts.l0 k l1 t601 0)
theorem spec_PutTexts.mono_l : ∀ k, (∀ y0 y1 y2, LeO (spec_PutTexts.l0 k y0 y1 y2) (spec_PutTexts.l0 (k + 1) y0 y1 y2))
 | 0 => fun _ _ _ r h => by simp [spec_PutTexts.l0] at h
 | k + 1 => by
  have ih0 := spec_PutTexts.mono_l k
  ·intro y0 y1 y2
   unfold spec_PutTexts.l0
   repeat' (with_reducible first | exact LeO.refl _ | exact LeO.none _ | apply ih0 | apply spec_PutNum.mono | apply spec_PutText.mono | apply LeO.ite | refine LeO.bind ?_ fun _ => ?_)
theorem spec_PutTexts.mono : ∀ a0 a1 k, LeO (spec_PutTexts.f k a0 a1) (spec_PutTexts.f (k + 1) a0 a1) := by
 intro a0 a1 k
 have ih0 := spec_PutTexts.mono_l k
 unfold spec_PutTexts.f
 repeat' (with_reducible first | exact LeO.refl _ | exact LeO.none _ | apply ih0 | apply spec_PutNum.mono | apply spec_PutText.mono | apply LeO.ite | refine LeO.bind ?_ fun _ => ?_)
set_option maxHeartbeats 8000000 in
set_option maxRecDepth 100000 in
theorem spec_PutTexts.calls (k : Nat) (A0 : Option Addr) (c0 : Nat) (l0 : List Int) (A1 : Option Addr) (c1 : Nat) (l1 : List ByteArray) (r : List Int) (w : World) (hr0 : Kd.C (Kd.int .u8) w A0 l0.length l0) (hc0 : l0.length ≤ c0) (hr1 : Kd.C Kd.string w A1 l1.length l1) (hc1 : l1.length ≤ c1) (h : spec_PutTexts.f k l0 l1 = some r) :
  Calls Try.prog 137 #[.slice A0 l0.length c0, .slice A1 l1.length c1] w fun e w' => ∃ v0_ : Value, e = .returned (v0_) ∧ Kd.R (Kd.int .u8) 5 w' w.heap.size (fun _ => True) v0_ r ∧ Below w.heap.size w w' := by
 have HR0 := Aside0.mk hr0
 have HC0 := Aside0.mk hc0
 clear hr0 hc0
 have HR1 := Aside0.mk hr1
 have HC1 := Aside0.mk hc1
 clear hr1 hc1
 have HB := Aside0.mk (Below.refl w.heap.size w)
 have H : ((spec_PutNum.f k l0 (l1.length : Int)).bind fun t601 => (spec_PutTexts.l0 k l1 t601 0)) = some r := h
 clear h
 replace H := bi_ H; obtain ⟨t601, A3, H⟩ := H
 have H' := Aside0.mk H
 clear H
 go_enter Try.func137, Try.ntmps137
 go_wp2_with (first | ((with_reducible refine gq_ 139 10 ?_); refine gc_ 10 Try.func139 (spec_PutNum.calls k _ _ l0 (l1.length : Int) t601 _ (cr_ HR0.out) HC0.out A3.out) ?_; rintro e w4 ⟨v602, rfl, ho0, hb⟩; refine ⟨_, rfl, ?_⟩; have HO603 := Aside0.mk (Kd.R_lower ho0 (sz_ HB)); replace HB := ss_ HB hb; clear hb ho0))
 go_loopg [5, 6] k (fun kq v5 v6 w' => ∃ (x5_1 : List Int) (x6_1 : Int), v6 = .int .i64 x6_1 ∧ Aside0 (spec_PutTexts.l0 kq l1 x5_1 x6_1 = some r) ∧ Aside0 (kq ≤ k) ∧ Aside0 (Kd.R (Kd.int .u8) 5 w' w.heap.size (fun _ => True) v5 x5_1) ∧ Aside0 (Below w.heap.size w w'))
 case atStart => exact ⟨(t601), (0), e1_, H', ⟨Nat.le_refl _⟩, ⟨kr_ HO603.out⟩, ⟨bw_ HB⟩⟩
 case round =>
  clear H'
  obtain ⟨x5_1, x6_1, rfl, HA, HK1, HO_5, HB⟩ := hrel
  cases gk with
  | zero => exact absurd HA.out (by simp [spec_PutTexts.l0])
  | succ k1 =>
   have H := HA.out
   clear HA
   simp only [spec_PutTexts.l0] at H
   replace H := itd_ H; obtain ⟨c5b0, H⟩ | ⟨c5b0, H⟩ := H
   ·replace H := ipd_ H; obtain ⟨c6b0, H⟩ := H
    replace H := bi_ H; obtain ⟨t605, A7, H⟩ := H
    have H' := Aside0.mk H
    clear H
    have p604 : 0 ≤ (x6_1 : Int) := of_decide_eq_true as_
    have q604 : x6_1 < (l1.length : Int) := of_decide_eq_true as_
    obtain ⟨ad604, e604, hx604_0⟩ := Kd.at_string HR1.out x6_1 p604 q604
    cases e604
    replace hx604_0 := (HB.out.cell (World.block_lt_of_cell? w _ hx604_0)).trans hx604_0
    replace p604 := eq_true p604
    replace q604 := eq_true q604
    obtain ⟨Ao8, co8, eo8⟩ := Kd.R_slice HO_5.out
    subst eo8
    go_wp2_with (first | ((with_reducible refine gq_ 138 22 ?_); refine gc_ 22 Try.func138 (spec_PutText.calls k1 _ _ x5_1 (rdOf ByteArray.empty l1 x6_1) t605 _ (ch_ HO_5) (cl_ HO_5) A7.out) ?_; rintro e w9 ⟨v606, rfl, ho0, hb⟩; refine ⟨_, rfl, ?_⟩; have HO607 := Aside0.mk (Kd.R_lower (Kd.R_new' ho0 (lt_ HO_5)) (sz_ HB)); replace HO_5 := re_ HO_5 ho0 hb; replace HB := ss_ HB hb; clear hb ho0))
    go_roundg k1
    case measure => have := HK1.out; omega
    case rel => exact ⟨(t605), (wrap64 (x6_1 + 1)), e1_, H', ⟨by have := HK1.out; omega⟩, ⟨by (with_reducible repeat (first | apply Kd.R_alloc | apply Kd.R_drewN | apply Kd.R_drew)); exact Kd.R_mono HO607.out (fun _ hk => trivial)⟩, ⟨bw_ HB⟩⟩
   ·obtain rfl := Option.some.inj H
    go_wp2
    go_ret
    exact ⟨_, e2_, kr_ HO_5.out, bw_ HB⟩
end Go.Proofs.Ytjnnglphdaemaaa.Q
end

section
-- Written by a program of this session (wip/tools/pp.sh) over the print of the kit.
namespace Go.Proofs.Ytjnnglphdaemaaa.Q
open Go.RowKit Go.Proofs.YtjnnglphdaemaaaW.PrintWords Go.Proofs.YtjnnglphdaemaaaW.PrintLast Go.Proofs.YtjnnglphdaemaaaW.PrintMore
attribute [local go_sem] max2_int min2_int max_two min_two max_three min_three max_four min_four   -- for this text's walks alone
set_option linter.unusedVariables false
set_option linter.unusedSimpArgs false
def impl_putTexts.l0 : Nat → List Int → List ByteArray → Int → Int → Option (List Int)
 | 0, _, _, _, _ => none
 | k + 1, x0, x11, x12, x13 => if x13 < x12 then (if 0 ≤ x13 then (if x13 < (x11.length : Int) then ((impl_putText.f k x0 (rdOf ByteArray.empty x11 x13)).bind fun t605 => (impl_putTexts.l0 k t605 x11 x12 (wrap64 (x13 + 1)))) else (none)) else (none)) else (some x0)
def impl_putTexts.f (k : Nat) (l0 : List Int) (l1 : List ByteArray) : Option (List Int) := (impl_putNum.f k l0 (l1.length : Int)).bind fun t601 => (impl_putTexts.l0 k t601 l1 (l1.length : Int) 0)
theorem impl_putTexts.mono_l : ∀ k, (∀ y0 y1 y2 y3, LeO (impl_putTexts.l0 k y0 y1 y2 y3) (impl_putTexts.l0 (k + 1) y0 y1 y2 y3))
 | 0 => fun _ _ _ _ r h => by simp [impl_putTexts.l0] at h
 | k + 1 => by
  have ih0 := impl_putTexts.mono_l k
  ·intro y0 y1 y2 y3
   unfold impl_putTexts.l0
   repeat' (with_reducible first | exact LeO.refl _ | exact LeO.none _ | apply ih0 | apply impl_putNum.mono | apply impl_putText.mono | apply LeO.ite | refine LeO.bind ?_ fun _ => ?_)
theorem impl_putTexts.mono : ∀ a0 a1 k, LeO (impl_putTexts.f k a0 a1) (impl_putTexts.f (k + 1) a0 a1) := by
 intro a0 a1 k
 have ih0 := impl_putTexts.mono_l k
 unfold impl_putTexts.f
 repeat' (with_reducible first | exact LeO.refl _ | exact LeO.none _ | apply ih0 | apply impl_putNum.mono | apply impl_putText.mono | apply LeO.ite | refine LeO.bind ?_ fun _ => ?_)
set_option maxHeartbeats 8000000 in
set_option maxRecDepth 100000 in
theorem impl_putTexts.calls (k : Nat) (P0_ : Nat → Prop) (u9000_ : Value) (l0 : List Int) (A1 : Option Addr) (c1 : Nat) (l1 : List ByteArray) (r : List Int) (w0 w : World) (hB : Below w0.heap.size w0 w) (ho0 : Kd.R (Kd.int .u8) 5 w w0.heap.size P0_ u9000_ l0) (hr1 : ∀ W_, Kept w W_ (fun k_ => P0_ k_) → Kd.C Kd.string W_ A1 l1.length l1) (hc1 : l1.length ≤ c1) (h : impl_putTexts.f k l0 l1 = some r) :
  Calls Try.prog 143 #[u9000_, .slice A1 l1.length c1] w fun e w' => ∃ v0_ : Value, e = .returned (v0_) ∧ Kd.R (Kd.int .u8) 5 w' w0.heap.size (fun k_ => (P0_ k_ ∨ w.heap.size ≤ k_)) v0_ r ∧ Below w0.heap.size w0 w' ∧ Kept w w' (fun k_ => P0_ k_) := by
 have HO0 := Aside0.mk (show Kd.R (Kd.int .u8) 5 w w0.heap.size (fun k_ => (P0_ k_ ∨ w.heap.size ≤ k_)) u9000_ l0 from Kd.R_mono ho0 (fun k_ hk => (.inl hk)))
 have HR1 := Aside0.mk hr1
 have HC1 := Aside0.mk hc1
 clear hr1 hc1
 have HK := Aside0.mk (Kept.refl w (fun k_ => P0_ k_))
 have HW0 := Aside0.mk hB.size
 have HB := Aside0.mk hB
 clear hB
 have H : ((impl_putNum.f k l0 (l1.length : Int)).bind fun t601 => (impl_putTexts.l0 k t601 l1 (l1.length : Int) 0)) = some r := h
 clear h
 replace H := bi_ H; obtain ⟨t601, A3, H⟩ := H
 have H' := Aside0.mk H
 clear H
 obtain ⟨Ao4, co4, eo4⟩ := Kd.R_slice HO0.out
 subst eo4
 go_enter Try.func143, Try.ntmps143
 go_wp2_with (first | ((with_reducible refine gq_ 145 10 ?_); refine gc_ 10 Try.func145 (impl_putNum.calls k (fun k_ => some k_ = (.slice Ao4 l0.length co4 : Value).ownBlock) (.slice Ao4 l0.length co4) l0 (l1.length : Int) t601 w0 _ (bw_ HB) (Kd.R_tight rfl HO0.out) A3.out) ?_; rintro e w5 ⟨v602, rfl, ho0, hb, hkp⟩; refine ⟨_, rfl, ?_⟩; have HO603 := Aside0.mk (Kd.R_mono (ok' := fun k_ => (P0_ k_ ∨ w.heap.size ≤ k_)) ho0 (fun k_ hk_ => Or.elim hk_ (fun hs_ => (HO0.out.1 k_ (hs_).symm)) (fun hn_ => (.inr (Nat.le_trans (by first | exact HK.out.1 | exact (show Kept w _ (fun k_ => P0_ k_) from by repeat (first | (with_reducible first | exact HK.out | apply Kept.alloc | apply Kept.drewN | apply Kept.drew) | exact HK.out)).1) hn_))))); replace HK := Aside0.mk (Kept.then_ (S := (fun k_ => P0_ k_)) (by repeat (first | (with_reducible first | exact HK.out | apply Kept.alloc | apply Kept.drewN | apply Kept.drew) | exact HK.out)) hkp (fun k_ hs_ => (fun e_ => (HO0.out.1 k_ e_.symm)) hs_)); replace HB := Aside0.mk hb; clear HO0; clear hb hkp ho0))
 go_loopg [0, 13] k (fun kq v0 v13 w' => ∃ (x0_1 : List Int) (x13_1 : Int), v13 = .int .i64 x13_1 ∧ Aside0 (impl_putTexts.l0 kq x0_1 l1 (l1.length : Int) x13_1 = some r) ∧ Aside0 (kq ≤ k) ∧ Aside0 (Kd.R (Kd.int .u8) 5 w' w0.heap.size (fun k_ => (P0_ k_ ∨ w.heap.size ≤ k_)) v0 x0_1) ∧ Aside0 (Kept w w' (fun k_ => P0_ k_)) ∧ Aside0 (Below w0.heap.size w0 w'))
 case atStart => exact ⟨(t601), (0), e1_, H', ⟨Nat.le_refl _⟩, ⟨kr_ HO603.out⟩, ⟨by repeat (first | (with_reducible first | exact HK.out | apply Kept.alloc | apply Kept.drewN | apply Kept.drew) | exact HK.out)⟩, ⟨bw_ HB⟩⟩
 case round =>
  clear H'
  obtain ⟨x0_1, x13_1, rfl, HA, HK1, HO_0, HK, HB⟩ := hrel
  cases gk with
  | zero => exact absurd HA.out (by simp [impl_putTexts.l0])
  | succ k1 =>
   have H := HA.out
   clear HA
   simp only [impl_putTexts.l0] at H
   replace H := itd_ H; obtain ⟨c6b0, H⟩ | ⟨c6b0, H⟩ := H
   ·replace H := ipd_ H; obtain ⟨c7b0, H⟩ := H
    replace H := ipd_ H; obtain ⟨c8b0, H⟩ := H
    replace H := bi_ H; obtain ⟨t605, A9, H⟩ := H
    have H' := Aside0.mk H
    clear H
    have p604 : 0 ≤ (x13_1 : Int) := of_decide_eq_true as_
    have q604 : x13_1 < (l1.length : Int) := of_decide_eq_true as_
    obtain ⟨ad604, e604, hx604_0⟩ := Kd.at_string (Kd.C_kept_now HR1.out HK.out) x13_1 p604 q604
    cases e604
    replace p604 := eq_true p604
    replace q604 := eq_true q604
    obtain ⟨Ao10, co10, eo10⟩ := Kd.R_slice HO_0.out
    subst eo10
    go_wp2_with (first | ((with_reducible refine gq_ 144 19 ?_); refine gc_ 19 Try.func144 (impl_putText.calls k1 (fun k_ => some k_ = (.slice Ao10 x0_1.length co10 : Value).ownBlock) (.slice Ao10 x0_1.length co10) x0_1 (rdOf ByteArray.empty l1 x13_1) t605 w0 _ (bw_ HB) (Kd.R_tight rfl HO_0.out) A9.out) ?_; rintro e w11 ⟨v606, rfl, ho0, hb, hkp⟩; refine ⟨_, rfl, ?_⟩; have HO607 := Aside0.mk (Kd.R_mono (ok' := fun k_ => (P0_ k_ ∨ w.heap.size ≤ k_)) ho0 (fun k_ hk_ => Or.elim hk_ (fun hs_ => (HO_0.out.1 k_ (hs_).symm)) (fun hn_ => (.inr (Nat.le_trans (by first | exact HK.out.1 | exact (show Kept w _ (fun k_ => P0_ k_) from by repeat (first | (with_reducible first | exact HK.out | apply Kept.alloc | apply Kept.drewN | apply Kept.drew) | exact HK.out)).1) hn_))))); replace HK := Aside0.mk (Kept.then_ (S := (fun k_ => P0_ k_)) (by repeat (first | (with_reducible first | exact HK.out | apply Kept.alloc | apply Kept.drewN | apply Kept.drew) | exact HK.out)) hkp (fun k_ hs_ => (fun e_ => (HO_0.out.1 k_ e_.symm)) hs_)); replace HB := Aside0.mk hb; clear HO_0; clear hb hkp ho0))
    go_roundg k1
    case measure => have := HK1.out; omega
    case rel => exact ⟨(t605), (wrap64 (x13_1 + 1)), e1_, H', ⟨by have := HK1.out; omega⟩, ⟨kr_ HO607.out⟩, ⟨by repeat (first | (with_reducible first | exact HK.out | apply Kept.alloc | apply Kept.drewN | apply Kept.drew) | exact HK.out)⟩, ⟨bw_ HB⟩⟩
   ·obtain rfl := Option.some.inj H
    go_wp2
    go_ret
    exact ⟨_, e2_, kr_ HO_0.out, bw_ HB, by repeat (first | (with_reducible first | exact HK.out | apply Kept.alloc | apply Kept.drewN | apply Kept.drew) | exact HK.out)⟩
end Go.Proofs.Ytjnnglphdaemaaa.Q
end

section
/- Numbers and texts put behind bytes: the program's and the reference's are one. Plain. -/
namespace Go.Proofs.Ytjnnglphdaemaaa.Q
open Go.RowKit Go.Proofs.Ytjnnglphdaemaaa.B Go.Proofs.YtjnnglphdaemaaaW.PrintWords Go.Proofs.YtjnnglphdaemaaaW.PrintMore
set_option linter.unusedVariables false
set_option linter.unusedSimpArgs false

theorem or_swap (a b : Int) : Go.bits .or .i64 a b = Go.bits .or .i64 b a := by
  have e : ∀ x y : Int, Go.bits .or .i64 x y = IntKind.i64.wrap ((BitVec.ofInt 64 x ||| BitVec.ofInt 64 y).toNat : Int) := fun x y => rfl
  rw [e, e, BitVec.or_comm]
/-- Bytes. -/
def InB (l : List Int) : Prop := ∀ x ∈ l, 0 ≤ x ∧ x ≤ 255
theorem inB_nil : InB [] := fun x hx => by simp at hx
theorem inB_app {a b : List Int} (ha : InB a) (hb : InB b) : InB (a ++ b) := fun x hx => by
  rcases List.mem_append.1 hx with hx | hx
  · exact ha x hx
  · exact hb x hx
theorem inB_text (s : ByteArray) : InB (bytesOf s) := fun x hx => bytesOf_range s x hx
end Go.Proofs.Ytjnnglphdaemaaa.Q
end

section
/- The bytes of a number, and that nothing else is read as it. Plain. -/
namespace Go.Proofs.Ytjnnglphdaemaaa.Q
open Go.RowKit Go.Proofs.Ytjnnglphdaemaaa.B Go.Proofs.YtjnnglphdaemaaaW.PrintWords Go.Proofs.YtjnnglphdaemaaaW.PrintMore
set_option linter.unusedVariables false
set_option linter.unusedSimpArgs false

/-- The bytes of a number. -/
def num (n : Nat) : List Int := if 127 < n then ((128 + n % 128 : Nat) : Int) :: num (n / 128) else [(n : Int)]
termination_by n
decreasing_by omega
theorem num_more {n : Nat} (h : 127 < n) : num n = ((128 + n % 128 : Nat) : Int) :: num (n / 128) := by rw [num, if_pos h]
theorem num_one {n : Nat} (h : ¬ 127 < n) : num n = [(n : Int)] := by rw [num, if_neg h]
theorem num_inB (n : Nat) : InB (num n) := by
  induction n using Nat.strongRecOn with
  | ind n ih =>
    by_cases h : 127 < n
    · rw [num_more h]
      intro x hx
      rcases List.mem_cons.1 hx with hx | hx
      · omega
      · exact ih (n / 128) (by omega) x hx
    · rw [num_one h]
      intro x hx
      rw [List.mem_singleton.1 hx]
      omega
theorem num_pos (n : Nat) : 1 ≤ (num n).length := by
  by_cases h : 127 < n
  · rw [num_more h]
    simp
  · rw [num_one h]
    simp
theorem num_len : ∀ (k n : Nat), n < 128 ^ (k + 1) → (num n).length ≤ k + 1 := by
  intro k
  induction k with
  | zero =>
    intro n h
    rw [num_one (by omega)]
    simp
  | succ k ih =>
    intro n h
    by_cases h2 : 127 < n
    · rw [num_more h2, List.length_cons]
      have := ih (n / 128) (by rw [Nat.pow_succ] at h; omega)
      omega
    · rw [num_one h2]
      simp
theorem num_five {n : Nat} (h : n ≤ 1000000000) : (num n).length ≤ 5 := num_len 4 n (by omega)
theorem num_inj : ∀ (n m : Nat) (r s : List Int), num n ++ r = num m ++ s → n = m ∧ r = s := by
  intro n
  induction n using Nat.strongRecOn with
  | ind n ih =>
    intro m r s h
    by_cases h1 : 127 < n
    · by_cases h2 : 127 < m
      · rw [num_more h1, num_more h2, List.cons_append, List.cons_append] at h
        injection h with ha hb
        obtain ⟨e1, e2⟩ := ih (n / 128) (by omega) (m / 128) r s hb
        exact ⟨by omega, e2⟩
      · rw [num_more h1, num_one h2, List.cons_append, List.cons_append] at h
        injection h with ha hb
        omega
    · by_cases h2 : 127 < m
      · rw [num_one h1, num_more h2, List.cons_append, List.cons_append] at h
        injection h with ha hb
        omega
      · rw [num_one h1, num_one h2, List.cons_append, List.cons_append] at h
        injection h with ha hb
        exact ⟨by omega, by simpa using hb⟩
/-- The bytes of a text. -/
def textB (s : ByteArray) : List Int := num s.size ++ bytesOf s
/-- The bytes of texts, without their count. -/
def manyB (t : List ByteArray) : List Int := (t.map textB).flatten
/-- The bytes of texts. -/
def textsB (t : List ByteArray) : List Int := num t.length ++ manyB t
theorem textB_inB (s : ByteArray) : InB (textB s) := inB_app (num_inB _) (inB_text s)
theorem manyB_nil : manyB [] = [] := rfl
theorem manyB_cons (s : ByteArray) (t : List ByteArray) : manyB (s :: t) = textB s ++ manyB t := rfl
theorem textB_length (s : ByteArray) : (textB s).length = (num s.size).length + s.size := by
  unfold textB
  rw [List.length_append, bytesOf_length]
theorem bytesOf_inj {a b : ByteArray} (h : bytesOf a = bytesOf b) : a = b := by
  apply bytes_ext
  rw [Go.Lib.toList_data, Go.Lib.toList_data]
  unfold bytesOf at h
  refine List.map_inj_right (fun x y e => ?_) |>.1 h
  exact UInt8.toNat_inj.1 (by omega)
theorem textB_inj {a b : ByteArray} {r s : List Int} (h : textB a ++ r = textB b ++ s) : a = b ∧ r = s := by
  unfold textB at h
  rw [List.append_assoc, List.append_assoc] at h
  obtain ⟨h1, h2⟩ := num_inj _ _ _ _ h
  obtain ⟨h3, h4⟩ := List.append_inj h2 (by rw [bytesOf_length, bytesOf_length, h1])
  exact ⟨bytesOf_inj h3, h4⟩
theorem manyB_inj : ∀ (a b : List ByteArray) (r s : List Int), a.length = b.length → manyB a ++ r = manyB b ++ s → a = b ∧ r = s := by
  intro a
  induction a with
  | nil =>
    intro b r s hl h
    obtain rfl := List.eq_nil_of_length_eq_zero hl.symm
    exact ⟨rfl, by simpa [manyB_nil] using h⟩
  | cons x a ih =>
    intro b r s hl h
    cases b with
    | nil => cases hl
    | cons y b =>
      rw [manyB_cons, manyB_cons, List.append_assoc, List.append_assoc] at h
      obtain ⟨e1, e2⟩ := textB_inj h
      obtain ⟨e3, e4⟩ := ih b r s (by simpa using hl) e2
      exact ⟨by rw [e1, e3], e4⟩
theorem textsB_inj {a b : List ByteArray} {r s : List Int} (h : textsB a ++ r = textsB b ++ s) : a = b ∧ r = s := by
  unfold textsB at h
  rw [List.append_assoc, List.append_assoc] at h
  obtain ⟨h1, h2⟩ := num_inj _ _ _ _ h
  exact manyB_inj a b r s h1 h2
end Go.Proofs.Ytjnnglphdaemaaa.Q
end

section
-- Written by a program of this session (wip/tools/pp.sh) over the print of the kit.
namespace Go.Proofs.Ytjnnglphdaemaaa.Q
open Go.RowKit Go.Proofs.YtjnnglphdaemaaaW.PrintWords Go.Proofs.YtjnnglphdaemaaaW.PrintLast Go.Proofs.YtjnnglphdaemaaaW.PrintMore
attribute [local go_sem] max2_int min2_int max_two min_two max_three min_three max_four min_four   -- for this text's walks alone
set_option linter.unusedVariables false
set_option linter.unusedSimpArgs false
end Go.Proofs.Ytjnnglphdaemaaa.Q
end

section
-- Written by a program of this session (wip/tools/pp.sh) over the print of the kit.
namespace Go.Proofs.Ytjnnglphdaemaaa.Q
open Go.RowKit Go.Proofs.YtjnnglphdaemaaaW.PrintWords Go.Proofs.YtjnnglphdaemaaaW.PrintLast Go.Proofs.YtjnnglphdaemaaaW.PrintMore
attribute [local go_sem] max2_int min2_int max_two min_two max_three min_three max_four min_four   -- for this text's walks alone
set_option linter.unusedVariables false
set_option linter.unusedSimpArgs false
end Go.Proofs.Ytjnnglphdaemaaa.Q
end

section
-- Written by a program of this session (wip/tools/pp.sh) over the print of the kit.
namespace Go.Proofs.Ytjnnglphdaemaaa.Q
open Go.RowKit Go.Proofs.YtjnnglphdaemaaaW.PrintWords Go.Proofs.YtjnnglphdaemaaaW.PrintLast Go.Proofs.YtjnnglphdaemaaaW.PrintMore
attribute [local go_sem] max2_int min2_int max_two min_two max_three min_three max_four min_four   -- for this text's walks alone
set_option linter.unusedVariables false
set_option linter.unusedSimpArgs false
end Go.Proofs.Ytjnnglphdaemaaa.Q
end

section
-- Written by a program of this session (wip/tools/pp.sh) over the print of the kit.
namespace Go.Proofs.Ytjnnglphdaemaaa.Q
open Go.RowKit Go.Proofs.YtjnnglphdaemaaaW.PrintWords Go.Proofs.YtjnnglphdaemaaaW.PrintLast Go.Proofs.YtjnnglphdaemaaaW.PrintMore
attribute [local go_sem] max2_int min2_int max_two min_two max_three min_three max_four min_four   -- for this text's walks alone
set_option linter.unusedVariables false
set_option linter.unusedSimpArgs false
def spec_l1In.f (a0 : Int) (a1 : Int) (a2 : Int) : Option (Bool) := if a0 ≥ a1 then (some (decide (a0 ≤ a2))) else (some false)
set_option maxHeartbeats 8000000 in
set_option maxRecDepth 100000 in
theorem spec_l1In.calls (a0 : Int) (a1 : Int) (a2 : Int) (r : Bool) (w : World) (h : spec_l1In.f a0 a1 a2 = some r) :
  Calls Try.prog 90 #[.int .i64 a0, .int .i64 a1, .int .i64 a2] w fun e w' => e = .returned (.bool r) ∧ Drawn0 w w' := by
 have H : (if a0 ≥ a1 then (some (decide (a0 ≤ a2))) else (some false)) = some r := h
 clear h
 replace H := it_ H; obtain ⟨c4, H⟩ | ⟨c4, H⟩ := H
 ·have c4b0 : decide (a1 ≤ a0) = true := decide_eq_true c4
  clear c4
  obtain rfl := Option.some.inj H
  go_enter Try.func90, Try.ntmps90
  go_wp2
  go_ret
  exact ⟨e1_, dw_⟩
 ·have c4b0 : decide (a1 ≤ a0) = false := decide_eq_false c4
  clear c4
  obtain rfl := Option.some.inj H
  go_enter Try.func90, Try.ntmps90
  go_wp2
  go_ret
  exact ⟨e1_, dw_⟩
end Go.Proofs.Ytjnnglphdaemaaa.Q
end

section
-- Written by a program of this session (wip/tools/pp.sh) over the print of the kit.
namespace Go.Proofs.Ytjnnglphdaemaaa.Q
open Go.RowKit Go.Proofs.YtjnnglphdaemaaaW.PrintWords Go.Proofs.YtjnnglphdaemaaaW.PrintLast Go.Proofs.YtjnnglphdaemaaaW.PrintMore
attribute [local go_sem] max2_int min2_int max_two min_two max_three min_three max_four min_four   -- for this text's walks alone
set_option linter.unusedVariables false
set_option linter.unusedSimpArgs false
def impl_inRange.f (a0 : Int) (a1 : Int) (a2 : Int) : Option (Bool) := if a0 ≥ a1 then (some (decide (a0 ≤ a2))) else (some false)
set_option maxHeartbeats 8000000 in
set_option maxRecDepth 100000 in
theorem impl_inRange.calls (a0 : Int) (a1 : Int) (a2 : Int) (r : Bool) (w : World) (h : impl_inRange.f a0 a1 a2 = some r) :
  Calls Try.prog 67 #[.int .i64 a0, .int .i64 a1, .int .i64 a2] w fun e w' => e = .returned (.bool r) ∧ Drawn0 w w' := by
 have H : (if a0 ≥ a1 then (some (decide (a0 ≤ a2))) else (some false)) = some r := h
 clear h
 replace H := it_ H; obtain ⟨c4, H⟩ | ⟨c4, H⟩ := H
 ·have c4b0 : decide (a1 ≤ a0) = true := decide_eq_true c4
  clear c4
  obtain rfl := Option.some.inj H
  go_enter Try.func67, Try.ntmps67
  go_wp2
  go_ret
  exact ⟨e1_, dw_⟩
 ·have c4b0 : decide (a1 ≤ a0) = false := decide_eq_false c4
  clear c4
  obtain rfl := Option.some.inj H
  go_enter Try.func67, Try.ntmps67
  go_wp2
  go_ret
  exact ⟨e1_, dw_⟩
end Go.Proofs.Ytjnnglphdaemaaa.Q
end

section
/- What the laws' own helpers do with heads and lists of heads, and that the program's and the reference's HeadOk are one. -/
namespace Go.Proofs.Ytjnnglphdaemaaa.Q
open Go.RowKit Go.Proofs.Ytjnnglphdaemaaa.B Go.Proofs.YtjnnglphdaemaaaW.PrintWords

theorem spec_in_eq (a b c : Int) : spec_l1In.f a b c = some (decide (b ≤ a ∧ a ≤ c)) := by
  unfold spec_l1In.f
  by_cases h : a ≥ b
  · rw [if_pos h]
    by_cases h2 : a ≤ c
    · rw [decide_eq_true h2, decide_eq_true ⟨h, h2⟩]
    · rw [decide_eq_false h2, decide_eq_false (fun q => h2 q.2)]
  · rw [if_neg h, decide_eq_false (fun q => h q.1)]
theorem impl_in_eq (a b c : Int) : impl_inRange.f a b c = some (decide (b ≤ a ∧ a ≤ c)) := spec_in_eq a b c

end Go.Proofs.Ytjnnglphdaemaaa.Q
end

section
-- Written by a program of this session (wip/tools/pp.sh) over the print of the kit.
namespace Go.Proofs.Ytjnnglphdaemaaa.Q
open Go.RowKit Go.Proofs.YtjnnglphdaemaaaW.PrintWords Go.Proofs.YtjnnglphdaemaaaW.PrintLast Go.Proofs.YtjnnglphdaemaaaW.PrintMore
attribute [local go_sem] max2_int min2_int max_two min_two max_three min_three max_four min_four   -- for this text's walks alone
set_option linter.unusedVariables false
set_option linter.unusedSimpArgs false
mutual
def impl_GetNum.l0 : Nat → List Int → Int → Int → Int → Option (Int × Int × Bool)
 | 0, _, _, _, _ => none
 | k + 1, x0, x1, x7, x8 => if x8 < 5 then (impl_GetNum.j1 k x0 x1 x7 x8 (decide (x1 < (x0.length : Int)))) else (impl_GetNum.j1 k x0 x1 x7 x8 false)
def impl_GetNum.j1 : Nat → List Int → Int → Int → Int → Bool → Option (Int × Int × Bool)
 | 0, _, _, _, _, _ => none
 | k + 1, x0, x1, x7, x8, x23 => if x23 = true then (if 0 ≤ x1 then (if x1 < (x0.length : Int) then (if 0 ≤ (IntKind.u64.wrap (wrap64 (7 * x8))) then (if (wrap64 (rd x0 x1)) < 128 then (if (wrap64 (rd x0 x1)) = 0 then (if x8 > 0 then (some (0, 0, false)) else (if (Go.bits .or .i64 x7 (shl .i64 (Go.bits .and .i64 (wrap64 (rd x0 x1)) 127) (IntKind.u64.wrap (wrap64 (7 * x8))))) > 1000000000 then (some (0, 0, false)) else (some (Go.bits .or .i64 x7 (shl .i64 (Go.bits .and .i64 (wrap64 (rd x0 x1)) 127) (IntKind.u64.wrap (wrap64 (7 * x8)))), wrap64 (x1 + 1), true)))) else (if (Go.bits .or .i64 x7 (shl .i64 (Go.bits .and .i64 (wrap64 (rd x0 x1)) 127) (IntKind.u64.wrap (wrap64 (7 * x8))))) > 1000000000 then (some (0, 0, false)) else (some (Go.bits .or .i64 x7 (shl .i64 (Go.bits .and .i64 (wrap64 (rd x0 x1)) 127) (IntKind.u64.wrap (wrap64 (7 * x8)))), wrap64 (x1 + 1), true)))) else (impl_GetNum.l0 k x0 (wrap64 (x1 + 1)) (Go.bits .or .i64 x7 (shl .i64 (Go.bits .and .i64 (wrap64 (rd x0 x1)) 127) (IntKind.u64.wrap (wrap64 (7 * x8))))) (wrap64 (x8 + 1)))) else (none)) else (none)) else (none)) else (some (0, 0, false))
end
def impl_GetNum.f (k : Nat) (l0 : List Int) (a1 : Int) : Option (Int × Int × Bool) := (impl_inRange.f a1 0 (wrap64 ((l0.length : Int) - 1))).bind fun t601 => (if t601 = true then (impl_GetNum.l0 k l0 a1 0 0) else (some (0, 0, false)))
theorem impl_GetNum.mono_l : ∀ k, (∀ y0 y1 y2 y3, LeO (impl_GetNum.l0 k y0 y1 y2 y3) (impl_GetNum.l0 (k + 1) y0 y1 y2 y3)) ∧ (∀ y0 y1 y2 y3 y4, LeO (impl_GetNum.j1 k y0 y1 y2 y3 y4) (impl_GetNum.j1 (k + 1) y0 y1 y2 y3 y4))
 | 0 => ⟨fun _ _ _ _ r h => by simp [impl_GetNum.l0] at h, fun _ _ _ _ _ r h => by simp [impl_GetNum.j1] at h⟩
 | k + 1 => by
  obtain ⟨ih0, ih1⟩ := impl_GetNum.mono_l k
  refine ⟨?_, ?_⟩
  ·intro y0 y1 y2 y3
   unfold impl_GetNum.l0
   repeat' (with_reducible first | exact LeO.refl _ | exact LeO.none _ | apply ih0 | apply ih1 | apply LeO.ite | refine LeO.bind ?_ fun _ => ?_)
  ·intro y0 y1 y2 y3 y4
   unfold impl_GetNum.j1
   repeat' (with_reducible first | exact LeO.refl _ | exact LeO.none _ | apply ih0 | apply ih1 | apply LeO.ite | refine LeO.bind ?_ fun _ => ?_)
theorem impl_GetNum.mono : ∀ a0 a1 k, LeO (impl_GetNum.f k a0 a1) (impl_GetNum.f (k + 1) a0 a1) := by
 intro a0 a1 k
 obtain ⟨ih0, ih1⟩ := impl_GetNum.mono_l k
 unfold impl_GetNum.f
 repeat' (with_reducible first | exact LeO.refl _ | exact LeO.none _ | apply ih0 | apply ih1 | apply LeO.ite | refine LeO.bind ?_ fun _ => ?_)
set_option maxHeartbeats 8000000 in
set_option maxRecDepth 100000 in
theorem impl_GetNum.calls (k : Nat) (A0 : Option Addr) (c0 : Nat) (l0 : List Int) (a1 : Int) (r1 : Int) (r2 : Int) (r3 : Bool) (w : World) (hr0 : Kd.C (Kd.int .u8) w A0 l0.length l0) (hc0 : l0.length ≤ c0) (h : impl_GetNum.f k l0 a1 = some (r1, r2, r3)) :
  Calls Try.prog 108 #[.slice A0 l0.length c0, .int .i64 a1] w fun e w' => e = .returned (.tuple #[.int .i64 r1, .int .i64 r2, .bool r3]) ∧ Drawn0 w w' := by
 have HR0 := Aside0.mk hr0
 have HC0 := Aside0.mk hc0
 clear hr0 hc0
 have H : ((impl_inRange.f a1 0 (wrap64 ((l0.length : Int) - 1))).bind fun t601 => (if t601 = true then (impl_GetNum.l0 k l0 a1 0 0) else (some (0, 0, false)))) = some (r1, r2, r3) := h
 clear h
 replace H := bi_ H; obtain ⟨t601, A3, H⟩ := H
 replace H := itb_ H; obtain ⟨rfl, H⟩ | ⟨rfl, H⟩ := H
 ·have H' := Aside0.mk H
  clear H
  go_enter Try.func108, Try.ntmps108
  go_wp2_with (first | ((with_reducible refine gq_ 67 14 ?_); refine gc_ 14 Try.func67 (impl_inRange.calls a1 0 (wrap64 ((l0.length : Int) - 1)) true _ A3.out) ?_; rintro e w' ⟨rfl, ⟨nd, rfl⟩⟩; refine ⟨_, rfl, ?_⟩))
  go_loopg [1, 7, 8] k (fun kq v1 v7 v8 w' => ∃ (x1_1 : Int) (x7_1 : Int) (x8_1 : Int), v1 = .int .i64 x1_1 ∧ v7 = .int .i64 x7_1 ∧ v8 = .int .i64 x8_1 ∧ Aside0 (impl_GetNum.l0 kq l0 x1_1 x7_1 x8_1 = some (r1, r2, r3)) ∧ Aside0 (kq ≤ k) ∧ Drawn0 w w')
  case atStart => exact ⟨(a1), (0), (0), e1_, e1_, e1_, H', ⟨Nat.le_refl _⟩, dw_⟩
  case round =>
   clear H'
   obtain ⟨x1_1, x7_1, x8_1, rfl, rfl, rfl, HA, HK1, ⟨m1, rfl⟩⟩ := hrel
   cases gk with
   | zero => exact absurd HA.out (by simp [impl_GetNum.l0])
   | succ k1 =>
    have H := HA.out
    clear HA
    simp only [impl_GetNum.l0] at H
    have HC5 := Aside0.mk H
    clear H
    go_upto_region 5 with (fail)
    go_cut [23] (fun v23 wc => ∃ (kq : Nat) (x23_4 : Bool), v23 = .bool x23_4 ∧ Aside0 (impl_GetNum.j1 kq l0 x1_1 x7_1 x8_1 x23_4 = some (r1, r2, r3)) ∧ Aside0 (kq ≤ k1) ∧ Drawn0 w wc)
    case first =>
     have H := HC5.out
     clear HC5
     replace H := itd_ H; obtain ⟨c6b0, H⟩ | ⟨c6b0, H⟩ := H
     ·(first | rw [c6b0] | (simp only [i64_w, i32_w]; rw [c6b0]) | skip)
      have H' := Aside0.mk H
      clear H
      go_wp2
      go_meet
      case rel => exact ⟨_, (decide (x1_1 < (l0.length : Int))), e1_, H', ⟨by have := HK1.out; first | omega | exact Nat.le_refl _⟩, dw_⟩
     ·(first | rw [c6b0] | (simp only [i64_w, i32_w]; rw [c6b0]) | skip)
      have H' := Aside0.mk H
      clear H
      go_wp2
      go_meet
      case rel => exact ⟨_, (false), e1_, H', ⟨by have := HK1.out; first | omega | exact Nat.le_refl _⟩, dw_⟩
    case rest =>
     clear HC5
     try clear c1
     try clear p2
     try clear c4
     obtain ⟨kq, x23_4, rfl, HA, HJ4, ⟨mc4, rfl⟩⟩ := hcut
     cases kq with
     | zero => exact absurd HA.out (by simp [impl_GetNum.j1])
     | succ kj4 =>
      have H := HA.out
      clear HA
      simp only [impl_GetNum.j1] at H
      replace H := itb_ H; obtain ⟨rfl, H⟩ | ⟨rfl, H⟩ := H
      ·replace H := ipd_ H; obtain ⟨c8b0, H⟩ := H
       replace H := ipd_ H; obtain ⟨c9b0, H⟩ := H
       generalize hji10 : (IntKind.u64.wrap (wrap64 (7 * x8_1))) = ji10 at H
       replace H := ip_ H; obtain ⟨c11, H⟩ := H
       have c11b0 := eq_true c11
       have c11b1 := decide_eq_true c11
       clear c11
       generalize hji12 : (shl .i64 (Go.bits .and .i64 (wrap64 (rd l0 x1_1)) 127) (ji10)) = ji12 at H
       have hji12_ : (IntKind.i64.wrap ((Go.bits .and .i64 (wrap64 (rd l0 x1_1)) 127) * 2 ^ min (ji10).toNat 64)) = ji12 := hji12
       have hji12z : (ji10) ≤ 64 → (IntKind.i64.wrap ((Go.bits .and .i64 (wrap64 (rd l0 x1_1)) 127) * 2 ^ (ji10).toNat)) = ji12 := shl_small hji12
       have hji12y : (wrap64 ((Go.bits .and .i64 (wrap64 (rd l0 x1_1)) 127) * 2 ^ min (ji10).toNat 64)) = ji12 := (i64_w _).symm.trans hji12_
       have hji12x : (ji10) ≤ 64 → (wrap64 ((Go.bits .and .i64 (wrap64 (rd l0 x1_1)) 127) * 2 ^ (ji10).toNat)) = ji12 := fun h_ => (i64_w _).symm.trans (hji12z h_)
       replace H := itd_ H; obtain ⟨c13b0, H⟩ | ⟨c13b0, H⟩ := H
       ·replace H := it_ H; obtain ⟨c14, H⟩ | ⟨c14, H⟩ := H
        ·have c14b0 : ((wrap64 (rd l0 x1_1)) == 0) = true := beq_iff_eq.mpr c14
         have c14b1 : ((wrap64 (rd l0 x1_1)) != 0) = false := bne_eq_false_iff_eq.mpr c14
         clear c14
         replace H := it_ H; obtain ⟨c15, H⟩ | ⟨c15, H⟩ := H
         ·have c15b0 : decide (0 < x8_1) = true := decide_eq_true c15
          clear c15
          replace H := so3_ H; obtain ⟨rfl, rfl, rfl⟩ := H
          obtain ⟨ad602, e602, hx602_0, p602, q602⟩ := ai_ HR0.out x1_1
          cases e602
          go_wp2
          go_ret3
          exact ⟨by first | rfl | (simp; done) | (simp only [← hji10, ← hji12] <;> (first | rfl | simp)) | (simp [*]; done), dw_⟩
         ·have c15b0 : decide (0 < x8_1) = false := decide_eq_false c15
          clear c15
          replace H := it_ H; obtain ⟨c16, H⟩ | ⟨c16, H⟩ := H
          ·have c16b0 : decide (1000000000 < (Go.bits .or .i64 x7_1 (ji12))) = true := decide_eq_true c16
           clear c16
           replace H := so3_ H; obtain ⟨rfl, rfl, rfl⟩ := H
           obtain ⟨ad602, e602, hx602_0, p602, q602⟩ := ai_ HR0.out x1_1
           cases e602
           go_wp2
           go_ret3
           exact ⟨by first | rfl | (simp; done) | (simp only [← hji10, ← hji12] <;> (first | rfl | simp)) | (simp [*]; done), dw_⟩
          ·have c16b0 : decide (1000000000 < (Go.bits .or .i64 x7_1 (ji12))) = false := decide_eq_false c16
           clear c16
           replace H := so3_ H; obtain ⟨rfl, rfl, rfl⟩ := H
           obtain ⟨ad602, e602, hx602_0, p602, q602⟩ := ai_ HR0.out x1_1
           cases e602
           go_wp2
           go_ret3
           exact ⟨by first | rfl | (simp; done) | (simp only [← hji10, ← hji12] <;> (first | rfl | simp)) | (simp [*]; done), dw_⟩
        ·have c14b0 : ((wrap64 (rd l0 x1_1)) == 0) = false := beq_eq_false_iff_ne.mpr c14
         have c14b1 : ((wrap64 (rd l0 x1_1)) != 0) = true := bne_iff_ne.mpr c14
         replace H := it_ H; obtain ⟨c17, H⟩ | ⟨c17, H⟩ := H
         ·have c17b0 : decide (1000000000 < (Go.bits .or .i64 x7_1 (ji12))) = true := decide_eq_true c17
          clear c17
          replace H := so3_ H; obtain ⟨rfl, rfl, rfl⟩ := H
          obtain ⟨ad602, e602, hx602_0, p602, q602⟩ := ai_ HR0.out x1_1
          cases e602
          go_wp2
          go_ret3
          exact ⟨by first | rfl | (simp; done) | (simp only [← hji10, ← hji12] <;> (first | rfl | simp)) | (simp [*]; done), dw_⟩
         ·have c17b0 : decide (1000000000 < (Go.bits .or .i64 x7_1 (ji12))) = false := decide_eq_false c17
          clear c17
          replace H := so3_ H; obtain ⟨rfl, rfl, rfl⟩ := H
          obtain ⟨ad602, e602, hx602_0, p602, q602⟩ := ai_ HR0.out x1_1
          cases e602
          go_wp2
          go_ret3
          exact ⟨by first | rfl | (simp; done) | (simp only [← hji10, ← hji12] <;> (first | rfl | simp)) | (simp [*]; done), dw_⟩
       ·have H' := Aside0.mk H
        clear H
        obtain ⟨ad602, e602, hx602_0, p602, q602⟩ := ai_ HR0.out x1_1
        cases e602
        go_wp2
        go_roundg kj4
        case measure => have := HK1.out; have := HJ4.out; omega
        case rel => exact ⟨(wrap64 (x1_1 + 1)), (Go.bits .or .i64 x7_1 (ji12)), (wrap64 (x8_1 + 1)), e1_, (by first | rfl | (simp; done) | (simp only [← hji12] <;> (first | rfl | simp)) | (simp [*]; done)), e1_, H', ⟨by have := HK1.out; have := HJ4.out; omega⟩, dw_⟩
      ·replace H := so3_ H; obtain ⟨rfl, rfl, rfl⟩ := H
       go_wp2
       go_ret3
       exact ⟨e1_, dw_⟩
 ·replace H := so3_ H; obtain ⟨rfl, rfl, rfl⟩ := H
  go_enter Try.func108, Try.ntmps108
  go_wp2_with (first | ((with_reducible refine gq_ 67 14 ?_); refine gc_ 14 Try.func67 (impl_inRange.calls a1 0 (wrap64 ((l0.length : Int) - 1)) false _ A3.out) ?_; rintro e w' ⟨rfl, ⟨nd, rfl⟩⟩; refine ⟨_, rfl, ?_⟩))
  go_ret3
  exact ⟨e1_, dw_⟩
end Go.Proofs.Ytjnnglphdaemaaa.Q
end

section
-- Written by a program of this session (wip/tools/pp.sh) over the print of the kit.
namespace Go.Proofs.Ytjnnglphdaemaaa.Q
open Go.RowKit Go.Proofs.YtjnnglphdaemaaaW.PrintWords Go.Proofs.YtjnnglphdaemaaaW.PrintLast Go.Proofs.YtjnnglphdaemaaaW.PrintMore
attribute [local go_sem] max2_int min2_int max_two min_two max_three min_three max_four min_four   -- for this text's walks alone
set_option linter.unusedVariables false
set_option linter.unusedSimpArgs false
mutual
def spec_GetNum.l0 : Nat → List Int → Int → Int → Int → Option (Int × Int × Bool)
 | 0, _, _, _, _ => none
 | k + 1, x0, x1, x7, x8 => if x8 < 5 then (if x1 ≥ 0 then (if x1 < (x0.length : Int) then (spec_GetNum.j1 k x0 x1 x7 x8 (decide ((wrap64 (x1 + x8)) < (x0.length : Int)))) else (spec_GetNum.j1 k x0 x1 x7 x8 false)) else (spec_GetNum.j1 k x0 x1 x7 x8 false)) else (spec_GetNum.j1 k x0 x1 x7 x8 false)
def spec_GetNum.j1 : Nat → List Int → Int → Int → Int → Bool → Option (Int × Int × Bool)
 | 0, _, _, _, _, _ => none
 | k + 1, x0, x1, x7, x8, x29 => if x29 = true then (if 0 ≤ (wrap64 (x1 + x8)) then (if (wrap64 (x1 + x8)) < (x0.length : Int) then (if 0 ≤ (IntKind.u64.wrap (wrap64 (7 * x8))) then (if (wrap64 (rd x0 (wrap64 (x1 + x8)))) > 127 then (spec_GetNum.l0 k x0 x1 (Go.bits .or .i64 x7 (shl .i64 (Go.bits .and .i64 (wrap64 (rd x0 (wrap64 (x1 + x8)))) 127) (IntKind.u64.wrap (wrap64 (7 * x8))))) (wrap64 (x8 + 1))) else (if x8 > 0 then (if (wrap64 (rd x0 (wrap64 (x1 + x8)))) = 0 then (some (0, 0, false)) else (if (Go.bits .or .i64 x7 (shl .i64 (Go.bits .and .i64 (wrap64 (rd x0 (wrap64 (x1 + x8)))) 127) (IntKind.u64.wrap (wrap64 (7 * x8))))) > 1000000000 then (some (0, 0, false)) else (some (Go.bits .or .i64 x7 (shl .i64 (Go.bits .and .i64 (wrap64 (rd x0 (wrap64 (x1 + x8)))) 127) (IntKind.u64.wrap (wrap64 (7 * x8)))), wrap64 ((wrap64 (x1 + x8)) + 1), true)))) else (if (Go.bits .or .i64 x7 (shl .i64 (Go.bits .and .i64 (wrap64 (rd x0 (wrap64 (x1 + x8)))) 127) (IntKind.u64.wrap (wrap64 (7 * x8))))) > 1000000000 then (some (0, 0, false)) else (some (Go.bits .or .i64 x7 (shl .i64 (Go.bits .and .i64 (wrap64 (rd x0 (wrap64 (x1 + x8)))) 127) (IntKind.u64.wrap (wrap64 (7 * x8)))), wrap64 ((wrap64 (x1 + x8)) + 1), true))))) else (none)) else (none)) else (none)) else (some (0, 0, false))
end
def spec_GetNum.f (k : Nat) (l0 : List Int) (a1 : Int) : Option (Int × Int × Bool) := spec_GetNum.l0 k l0 a1 0 0
theorem spec_GetNum.mono_l : ∀ k, (∀ y0 y1 y2 y3, LeO (spec_GetNum.l0 k y0 y1 y2 y3) (spec_GetNum.l0 (k + 1) y0 y1 y2 y3)) ∧ (∀ y0 y1 y2 y3 y4, LeO (spec_GetNum.j1 k y0 y1 y2 y3 y4) (spec_GetNum.j1 (k + 1) y0 y1 y2 y3 y4))
 | 0 => ⟨fun _ _ _ _ r h => by simp [spec_GetNum.l0] at h, fun _ _ _ _ _ r h => by simp [spec_GetNum.j1] at h⟩
 | k + 1 => by
  obtain ⟨ih0, ih1⟩ := spec_GetNum.mono_l k
  refine ⟨?_, ?_⟩
  ·intro y0 y1 y2 y3
   unfold spec_GetNum.l0
   repeat' (with_reducible first | exact LeO.refl _ | exact LeO.none _ | apply ih0 | apply ih1 | apply LeO.ite | refine LeO.bind ?_ fun _ => ?_)
  ·intro y0 y1 y2 y3 y4
   unfold spec_GetNum.j1
   repeat' (with_reducible first | exact LeO.refl _ | exact LeO.none _ | apply ih0 | apply ih1 | apply LeO.ite | refine LeO.bind ?_ fun _ => ?_)
theorem spec_GetNum.mono : ∀ a0 a1 k, LeO (spec_GetNum.f k a0 a1) (spec_GetNum.f (k + 1) a0 a1) := by
 intro a0 a1 k
 obtain ⟨ih0, ih1⟩ := spec_GetNum.mono_l k
 unfold spec_GetNum.f
 repeat' (with_reducible first | exact LeO.refl _ | exact LeO.none _ | apply ih0 | apply ih1 | apply LeO.ite | refine LeO.bind ?_ fun _ => ?_)
set_option maxHeartbeats 8000000 in
set_option maxRecDepth 100000 in
theorem spec_GetNum.calls (k : Nat) (A0 : Option Addr) (c0 : Nat) (l0 : List Int) (a1 : Int) (r1 : Int) (r2 : Int) (r3 : Bool) (w : World) (hr0 : Kd.C (Kd.int .u8) w A0 l0.length l0) (hc0 : l0.length ≤ c0) (h : spec_GetNum.f k l0 a1 = some (r1, r2, r3)) :
  Calls Try.prog 119 #[.slice A0 l0.length c0, .int .i64 a1] w fun e w' => e = .returned (.tuple #[.int .i64 r1, .int .i64 r2, .bool r3]) ∧ Drawn0 w w' := by
 have HR0 := Aside0.mk hr0
 have HC0 := Aside0.mk hc0
 clear hr0 hc0
 have H : (spec_GetNum.l0 k l0 a1 0 0) = some (r1, r2, r3) := h
 clear h
 have H' := Aside0.mk H
 clear H
 go_enter Try.func119, Try.ntmps119
 go_wp2
 go_loopg [7, 8] k (fun kq v7 v8 w' => ∃ (x7_1 : Int) (x8_1 : Int), v7 = .int .i64 x7_1 ∧ v8 = .int .i64 x8_1 ∧ Aside0 (spec_GetNum.l0 kq l0 a1 x7_1 x8_1 = some (r1, r2, r3)) ∧ Aside0 (kq ≤ k) ∧ Drawn0 w w')
 case atStart => exact ⟨(0), (0), e1_, e1_, H', ⟨Nat.le_refl _⟩, dw_⟩
 case round =>
  clear H'
  obtain ⟨x7_1, x8_1, rfl, rfl, HA, HK1, ⟨m1, rfl⟩⟩ := hrel
  cases gk with
  | zero => exact absurd HA.out (by simp [spec_GetNum.l0])
  | succ k1 =>
   have H := HA.out
   clear HA
   simp only [spec_GetNum.l0] at H
   have HC3 := Aside0.mk H
   clear H
   go_upto_region 3 with (fail)
   go_cut [29] (fun v29 wc => ∃ (kq : Nat) (x29_2 : Bool), v29 = .bool x29_2 ∧ Aside0 (spec_GetNum.j1 kq l0 a1 x7_1 x8_1 x29_2 = some (r1, r2, r3)) ∧ Aside0 (kq ≤ k1) ∧ Drawn0 w wc)
   case first =>
    have H := HC3.out
    clear HC3
    replace H := itd_ H; obtain ⟨c4b0, H⟩ | ⟨c4b0, H⟩ := H
    ·(first | rw [c4b0] | (simp only [i64_w, i32_w]; rw [c4b0]) | skip)
     replace H := it_ H; obtain ⟨c5, H⟩ | ⟨c5, H⟩ := H
     ·have c5b0 : decide (0 ≤ a1) = true := decide_eq_true c5
      clear c5
      replace H := itd_ H; obtain ⟨c6b0, H⟩ | ⟨c6b0, H⟩ := H
      ·have H' := Aside0.mk H
       clear H
       go_wp2
       go_meet
       case rel => exact ⟨_, (decide ((wrap64 (a1 + x8_1)) < (l0.length : Int))), e1_, H', ⟨by have := HK1.out; first | omega | exact Nat.le_refl _⟩, dw_⟩
      ·have H' := Aside0.mk H
       clear H
       go_wp2
       go_meet
       case rel => exact ⟨_, (false), e1_, H', ⟨by have := HK1.out; first | omega | exact Nat.le_refl _⟩, dw_⟩
     ·have c5b0 : decide (0 ≤ a1) = false := decide_eq_false c5
      clear c5
      have H' := Aside0.mk H
      clear H
      go_wp2
      go_meet
      case rel => exact ⟨_, (false), e1_, H', ⟨by have := HK1.out; first | omega | exact Nat.le_refl _⟩, dw_⟩
    ·(first | rw [c4b0] | (simp only [i64_w, i32_w]; rw [c4b0]) | skip)
     have H' := Aside0.mk H
     clear H
     go_wp2
     go_meet
     case rel => exact ⟨_, (false), e1_, H', ⟨by have := HK1.out; first | omega | exact Nat.le_refl _⟩, dw_⟩
   case rest =>
    clear HC3
    try clear c1
    try clear p2
    obtain ⟨kq, x29_2, rfl, HA, HJ2, ⟨mc2, rfl⟩⟩ := hcut
    cases kq with
    | zero => exact absurd HA.out (by simp [spec_GetNum.j1])
    | succ kj2 =>
     have H := HA.out
     clear HA
     simp only [spec_GetNum.j1] at H
     replace H := itb_ H; obtain ⟨rfl, H⟩ | ⟨rfl, H⟩ := H
     ·generalize hji8 : (wrap64 (a1 + x8_1)) = ji8 at H
      have hji8w : (IntKind.i64.wrap (a1 + x8_1)) = ji8 := (i64_w _).trans hji8
      replace H := ipd_ H; obtain ⟨c9b0, H⟩ := H
      replace H := ipd_ H; obtain ⟨c10b0, H⟩ := H
      generalize hji11 : (IntKind.u64.wrap (wrap64 (7 * x8_1))) = ji11 at H
      replace H := ip_ H; obtain ⟨c12, H⟩ := H
      have c12b0 := eq_true c12
      have c12b1 := decide_eq_true c12
      clear c12
      generalize hji13 : (shl .i64 (Go.bits .and .i64 (wrap64 (rd l0 (ji8))) 127) (ji11)) = ji13 at H
      have hji13_ : (IntKind.i64.wrap ((Go.bits .and .i64 (wrap64 (rd l0 (ji8))) 127) * 2 ^ min (ji11).toNat 64)) = ji13 := hji13
      have hji13z : (ji11) ≤ 64 → (IntKind.i64.wrap ((Go.bits .and .i64 (wrap64 (rd l0 (ji8))) 127) * 2 ^ (ji11).toNat)) = ji13 := shl_small hji13
      have hji13y : (wrap64 ((Go.bits .and .i64 (wrap64 (rd l0 (ji8))) 127) * 2 ^ min (ji11).toNat 64)) = ji13 := (i64_w _).symm.trans hji13_
      have hji13x : (ji11) ≤ 64 → (wrap64 ((Go.bits .and .i64 (wrap64 (rd l0 (ji8))) 127) * 2 ^ (ji11).toNat)) = ji13 := fun h_ => (i64_w _).symm.trans (hji13z h_)
      replace H := it_ H; obtain ⟨c14, H⟩ | ⟨c14, H⟩ := H
      ·have c14b0 : decide (127 < (wrap64 (rd l0 (ji8)))) = true := decide_eq_true c14
       clear c14
       have H' := Aside0.mk H
       clear H
       obtain ⟨ad601, e601, hx601_0, p601, q601⟩ := ai_ HR0.out (ji8)
       cases e601
       go_wp2
       go_roundg kj2
       case measure => have := HK1.out; have := HJ2.out; omega
       case rel => exact ⟨(Go.bits .or .i64 x7_1 (ji13)), (wrap64 (x8_1 + 1)), (by first | rfl | (simp; done) | (simp only [← hji13] <;> (first | rfl | simp)) | (simp [*]; done)), e1_, H', ⟨by have := HK1.out; have := HJ2.out; omega⟩, dw_⟩
      ·have c14b0 : decide (127 < (wrap64 (rd l0 (ji8)))) = false := decide_eq_false c14
       clear c14
       replace H := it_ H; obtain ⟨c15, H⟩ | ⟨c15, H⟩ := H
       ·have c15b0 : decide (0 < x8_1) = true := decide_eq_true c15
        clear c15
        replace H := it_ H; obtain ⟨c16, H⟩ | ⟨c16, H⟩ := H
        ·have c16b0 : ((wrap64 (rd l0 (ji8))) == 0) = true := beq_iff_eq.mpr c16
         have c16b1 : ((wrap64 (rd l0 (ji8))) != 0) = false := bne_eq_false_iff_eq.mpr c16
         clear c16
         replace H := so3_ H; obtain ⟨rfl, rfl, rfl⟩ := H
         obtain ⟨ad601, e601, hx601_0, p601, q601⟩ := ai_ HR0.out (ji8)
         cases e601
         go_wp2
         go_ret3
         exact ⟨by first | rfl | (simp; done) | (simp only [← hji8, ← hji11, ← hji13] <;> (first | rfl | simp)) | (simp [*]; done), dw_⟩
        ·have c16b0 : ((wrap64 (rd l0 (ji8))) == 0) = false := beq_eq_false_iff_ne.mpr c16
         have c16b1 : ((wrap64 (rd l0 (ji8))) != 0) = true := bne_iff_ne.mpr c16
         replace H := it_ H; obtain ⟨c17, H⟩ | ⟨c17, H⟩ := H
         ·have c17b0 : decide (1000000000 < (Go.bits .or .i64 x7_1 (ji13))) = true := decide_eq_true c17
          clear c17
          replace H := so3_ H; obtain ⟨rfl, rfl, rfl⟩ := H
          obtain ⟨ad601, e601, hx601_0, p601, q601⟩ := ai_ HR0.out (ji8)
          cases e601
          go_wp2
          go_ret3
          exact ⟨by first | rfl | (simp; done) | (simp only [← hji8, ← hji11, ← hji13] <;> (first | rfl | simp)) | (simp [*]; done), dw_⟩
         ·have c17b0 : decide (1000000000 < (Go.bits .or .i64 x7_1 (ji13))) = false := decide_eq_false c17
          clear c17
          replace H := so3_ H; obtain ⟨rfl, rfl, rfl⟩ := H
          obtain ⟨ad601, e601, hx601_0, p601, q601⟩ := ai_ HR0.out (ji8)
          cases e601
          go_wp2
          go_ret3
          exact ⟨by first | rfl | (simp; done) | (simp only [← hji8, ← hji11, ← hji13] <;> (first | rfl | simp)) | (simp [*]; done), dw_⟩
       ·have c15b0 : decide (0 < x8_1) = false := decide_eq_false c15
        clear c15
        replace H := it_ H; obtain ⟨c18, H⟩ | ⟨c18, H⟩ := H
        ·have c18b0 : decide (1000000000 < (Go.bits .or .i64 x7_1 (ji13))) = true := decide_eq_true c18
         clear c18
         replace H := so3_ H; obtain ⟨rfl, rfl, rfl⟩ := H
         obtain ⟨ad601, e601, hx601_0, p601, q601⟩ := ai_ HR0.out (ji8)
         cases e601
         go_wp2
         go_ret3
         exact ⟨by first | rfl | (simp; done) | (simp only [← hji8, ← hji11, ← hji13] <;> (first | rfl | simp)) | (simp [*]; done), dw_⟩
        ·have c18b0 : decide (1000000000 < (Go.bits .or .i64 x7_1 (ji13))) = false := decide_eq_false c18
         clear c18
         replace H := so3_ H; obtain ⟨rfl, rfl, rfl⟩ := H
         obtain ⟨ad601, e601, hx601_0, p601, q601⟩ := ai_ HR0.out (ji8)
         cases e601
         go_wp2
         go_ret3
         exact ⟨by first | rfl | (simp; done) | (simp only [← hji8, ← hji11, ← hji13] <;> (first | rfl | simp)) | (simp [*]; done), dw_⟩
     ·replace H := so3_ H; obtain ⟨rfl, rfl, rfl⟩ := H
      go_wp2
      go_ret3
      exact ⟨e1_, dw_⟩
end Go.Proofs.Ytjnnglphdaemaaa.Q
end

section
/- A number read: it is what was put, and nothing else is read. Plain. -/
namespace Go.Proofs.Ytjnnglphdaemaaa.Q
open Go.RowKit Go.Proofs.Ytjnnglphdaemaaa.B Go.Proofs.YtjnnglphdaemaaaW.PrintWords Go.Proofs.YtjnnglphdaemaaaW.PrintMore
set_option linter.unusedVariables false
set_option linter.unusedSimpArgs false

theorem and127 (c : Int) (h0 : 0 ≤ c) (h1 : c < 9223372036854775808) : Go.bits .and .i64 c 127 = c % 128 := bits_mask .i64 63 (by decide) wraps63 7 (by decide) c h0 h1
theorem or128 (c : Int) (h0 : 0 ≤ c) (h1 : c < 128) : Go.bits .or .i64 c 128 = 128 + c := by
  rw [or_swap]
  exact bits_join .i64 63 (by decide) wraps63 7 128 c (by decide) (by decide) (by decide) h0 h1 (by omega)
theorem bit_at (n c p u : Int) (e : Nat) (hu : u = (e : Int)) (he : e ≤ 28) (hp : p = 2 ^ e) (hq : p ≤ 268435456) (hn0 : 0 ≤ n) (hn1 : n < p) (hc0 : 0 ≤ c) (hc1 : c ≤ 255) : Go.bits .or .i64 n (shl .i64 (Go.bits .and .i64 c 127) u) = n + p * (c % 128) := by
  rw [and127 c hc0 (by omega)]
  obtain ⟨d, hd⟩ : ∃ d, c % 128 = d := ⟨_, rfl⟩
  have hd0 : 0 ≤ d := by omega
  have hd1 : d ≤ 127 := by omega
  rw [hd]
  have hp0 : 0 ≤ p := by omega
  have hm : d * p ≤ 127 * 268435456 := Int.mul_le_mul hd1 hq hp0 (by decide)
  have hm0 : 0 ≤ d * p := Int.mul_nonneg hd0 hp0
  have hs : shl .i64 d u = d * p := by
    unfold shl
    rw [hu, Int.toNat_natCast, Nat.min_eq_left (show e ≤ IntKind.i64.bits by show e ≤ 64; omega), ← hp]
    exact wraps63 _ hm0 (by omega)
  rw [hs, or_swap, bits_join .i64 63 (by decide) wraps63 e (d * p) n hm0 (by rw [hp]; exact Int.mul_emod_left _ _) (by omega) hn0 (by rw [← hp]; exact hn1) (by omega), Int.mul_comm d p]
  omega
theorem u64_w (n : Int) : IntKind.u64.wrap n = n % 18446744073709551616 := by simp [IntKind.wrap, IntKind.bits, IntKind.signed]
theorem u7 (k : Nat) (hk : k ≤ 4) : IntKind.u64.wrap (wrap64 (7 * (k : Int))) = ((7 * k : Nat) : Int) := by
  rw [w64 (by omega) (by omega), u64_w]
  omega
theorem pow7 (k : Nat) : (128 : Nat) ^ k = 2 ^ (7 * k) := by rw [Nat.pow_mul]
theorem bit_step (n c k : Nat) (hk : k ≤ 4) (hn : n < 128 ^ k) (hc : c ≤ 255) : Go.bits .or .i64 (n : Int) (shl .i64 (Go.bits .and .i64 (c : Int) 127) ((7 * k : Nat) : Int)) = ((n + 128 ^ k * (c % 128) : Nat) : Int) := by
  have h4 : (128 : Nat) ^ k ≤ 128 ^ 4 := Nat.pow_le_pow_right (by decide) hk
  have h5 : (128 : Nat) ^ 4 = 268435456 := by decide
  have e := pow7 k
  have := bit_at (n : Int) (c : Int) ((128 ^ k : Nat) : Int) _ (7 * k) rfl (by omega) (by rw [e, Int.natCast_pow]; rfl) (by omega) (by omega) (by omega) (by omega) (by omega)
  rw [this, Int.natCast_add, Int.natCast_mul, Int.natCast_emod]
  rfl

/-- What the readers of a number tell: at a place with k bytes behind it that made n. -/
def NumAt (b : List Int) (a k n : Nat) (m x : Int) (ok : Bool) : Prop :=
  (ok = false → m = 0 ∧ x = 0 ∧ ∀ N r, b.drop (a + k) = num N ++ r → n + 128 ^ k * N ≤ 1000000000 → (0 < k → 0 < N) → False) ∧
  (ok = true → ∃ N : Nat, m = ((n + 128 ^ k * N : Nat) : Int) ∧ n + 128 ^ k * N ≤ 1000000000 ∧ (0 < k → 0 < N) ∧ b.drop (a + k) = num N ++ b.drop (a + k + (num N).length) ∧ x = ((a + k + (num N).length : Nat) : Int) ∧ a + k + (num N).length ≤ b.length)
theorem numAt_more {b : List Int} {a k n c : Nat} {m x : Int} {ok : Bool} (hk : k ≤ 4) (hd : b.drop (a + k) = (c : Int) :: b.drop (a + k + 1)) (hc : 127 < c) (hc2 : c ≤ 255) (h : NumAt b a (k + 1) (n + 128 ^ k * (c % 128)) m x ok) : NumAt b a k n m x ok := by
  have e : ∀ N, n + 128 ^ k * (c % 128) + 128 ^ (k + 1) * N = n + 128 ^ k * (c % 128 + 128 * N) := fun N => by
    rw [Nat.pow_succ, Nat.mul_add, Nat.mul_assoc]
    omega
  refine ⟨fun ho => ?_, fun ho => ?_⟩
  · obtain ⟨h1, h2, h3⟩ := h.1 ho
    refine ⟨h1, h2, fun N r hN hM hP => ?_⟩
    by_cases h9 : 127 < N
    · rw [num_more h9, hd, List.cons_append] at hN
      injection hN with ha hb
      refine h3 (N / 128) r hb ?_ (fun _ => by omega)
      rw [e]
      have : c % 128 + 128 * (N / 128) = N := by omega
      rw [this]
      exact hM
    · rw [num_one h9, hd, List.cons_append] at hN
      injection hN with ha hb
      omega
  · obtain ⟨N, h1, h2, h3, h4, h5, h6⟩ := h.2 ho
    have h3 := h3 (by omega)
    have hN : 127 < c % 128 + 128 * N := by omega
    have hn : num (c % 128 + 128 * N) = (c : Int) :: num N := by
      rw [num_more hN, show (c % 128 + 128 * N) / 128 = N by omega]
      congr 1
      omega
    refine ⟨c % 128 + 128 * N, by rw [h1, e], by rw [← e]; exact h2, fun _ => by omega, ?_, ?_, ?_⟩
    · rw [hn, hd, List.length_cons, List.cons_append]
      congr 1
      rw [show a + k + ((num N).length + 1) = a + (k + 1) + (num N).length by omega]
      exact h4
    · rw [hn, List.length_cons, h5]
      congr 1
      omega
    · rw [hn, List.length_cons]
      omega
theorem numAt_zero {b : List Int} {a k n : Nat} (hk : 0 < k) (hd : b.drop (a + k) = (0 : Int) :: b.drop (a + k + 1)) : NumAt b a k n 0 0 false := by
  refine ⟨fun _ => ⟨rfl, rfl, fun N r hN hM hP => ?_⟩, fun h => by cases h⟩
  have hP := hP hk
  by_cases h9 : 127 < N
  · rw [num_more h9, hd, List.cons_append] at hN
    injection hN with ha hb
    omega
  · rw [num_one h9, hd, List.cons_append] at hN
    injection hN with ha hb
    omega
theorem numAt_great {b : List Int} {a k n c : Nat} (hc : ¬ 127 < c) (hd : b.drop (a + k) = (c : Int) :: b.drop (a + k + 1)) (hg : 1000000000 < n + 128 ^ k * (c % 128)) : NumAt b a k n 0 0 false := by
  refine ⟨fun _ => ⟨rfl, rfl, fun N r hN hM hP => ?_⟩, fun h => by cases h⟩
  by_cases h9 : 127 < N
  · rw [num_more h9, hd, List.cons_append] at hN
    injection hN with ha hb
    omega
  · rw [num_one h9, hd, List.cons_append] at hN
    injection hN with ha hb
    have : c % 128 = N := by omega
    rw [this] at hg
    omega
theorem numAt_last {b : List Int} {a k n c : Nat} (hc : ¬ 127 < c) (h0 : 0 < k → 0 < c) (hl : a + k < b.length) (hd : b.drop (a + k) = (c : Int) :: b.drop (a + k + 1)) (hg : n + 128 ^ k * (c % 128) ≤ 1000000000) : NumAt b a k n ((n + 128 ^ k * (c % 128) : Nat) : Int) ((a + k + 1 : Nat) : Int) true := by
  refine ⟨fun h => (by cases h), fun _ => ⟨c, ?_, ?_, h0, ?_, ?_, ?_⟩⟩
  · rw [show c % 128 = c by omega]
  · rw [show c % 128 = c by omega] at hg
    exact hg
  · rw [num_one hc, hd]
    simp
  · rw [num_one hc]
    simp
  · rw [num_one hc]
    simp
    omega
theorem numAt_end {b : List Int} {a k n : Nat} (hl : b.length ≤ a + k) : NumAt b a k n 0 0 false := by
  refine ⟨fun _ => ⟨rfl, rfl, fun N r hN hM hP => ?_⟩, fun h => by cases h⟩
  rw [List.drop_eq_nil_of_le hl] at hN
  have := congrArg List.length hN
  have h2 := num_pos N
  rw [List.length_append] at this
  simp only [List.length_nil] at this
  omega
theorem numAt_five {b : List Int} {a n : Nat} : NumAt b a 5 n 0 0 false := by
  refine ⟨fun _ => ⟨rfl, rfl, fun N r hN hM hP => ?_⟩, fun h => by cases h⟩
  have hP := hP (by decide)
  omega
set_option maxHeartbeats 1000000 in
theorem getNum_loop (b : List Int) (hb : InB b) (hl : b.length ≤ 1099511627776) (a : Nat) (hA : a ≤ 1099511627776) : ∀ (d k : Nat), k + d = 5 → ∀ n : Nat, n < 128 ^ k → ∃ m x ok, Ev (fun q => spec_GetNum.l0 q b (a : Int) (n : Int) (k : Int)) (m, x, ok) ∧ Ev (fun q => impl_GetNum.l0 q b ((a + k : Nat) : Int) (n : Int) (k : Int)) (m, x, ok) ∧ NumAt b a k n m x ok := by
  have sEnd : ∀ (n k : Int), Ev (fun q => spec_GetNum.j1 q b (a : Int) n k false) (0, 0, false) := fun n k => by
    refine Ev.step (fun q => by simp only [spec_GetNum.j1]; rfl) ?_
    exact Ev.neg (by simp) (Ev.now _)
  have iEnd : ∀ (x n k : Int), Ev (fun q => impl_GetNum.j1 q b x n k false) (0, 0, false) := fun x n k => by
    refine Ev.step (fun q => by simp only [impl_GetNum.j1]; rfl) ?_
    exact Ev.neg (by simp) (Ev.now _)
  intro d
  induction d with
  | zero =>
    intro k hk n hn
    obtain rfl : k = 5 := by omega
    refine ⟨0, 0, false, ?_, ?_, numAt_five⟩
    · refine Ev.step (fun q => by simp only [spec_GetNum.l0]; rfl) ?_
      exact Ev.neg (by omega) (sEnd _ _)
    · refine Ev.step (fun q => by simp only [impl_GetNum.l0]; rfl) ?_
      exact Ev.neg (by omega) (iEnd _ _ _)
  | succ d ih =>
    intro k hk n hn
    have hk4 : k ≤ 4 := by omega
    have e1 := Aside0.mk (show wrap64 ((a : Int) + (k : Int)) = ((a + k : Nat) : Int) by
      rw [w64 (by omega) (by omega)]
      omega)
    have hk5 : (k : Int) < 5 := by omega
    by_cases hx : a + k < b.length
    · obtain ⟨c, hc⟩ := get_some (l := b) (i := a + k) hx
      have hd := drop_one hc
      have hcr := hb c (List.mem_of_getElem? hc)
      obtain ⟨c, rfl⟩ := Int.eq_ofNat_of_zero_le hcr.1
      have hc255 : c ≤ 255 := by omega
      have e2 := Aside0.mk (show rd b ((a + k : Nat) : Int) = (c : Int) from rd_at hc)
      have e3 := Aside0.mk (show wrap64 (c : Int) = (c : Int) from w64 (by omega) (by omega))
      have e4 := Aside0.mk (u7 k hk4)
      have e5 := Aside0.mk (bit_step n c k hk4 hn hc255)
      have e6 := Aside0.mk (show wrap64 ((k : Int) + 1) = ((k + 1 : Nat) : Int) by
        rw [w64 (by omega) (by omega)]
        omega)
      have e7 := Aside0.mk (show wrap64 (((a + k : Nat) : Int) + 1) = ((a + (k + 1) : Nat) : Int) by
        rw [w64 (by omega) (by omega)]
        omega)
      have hlt : ((a + k : Nat) : Int) < (b.length : Int) := by omega
      have h70 : (0 : Int) ≤ ((7 * k : Nat) : Int) := by omega
      have ha0 : (0 : Int) ≤ ((a + k : Nat) : Int) := by omega
      have key : ∀ r, Ev (fun q => spec_GetNum.j1 q b (a : Int) (n : Int) (k : Int) true) r → Ev (fun q => spec_GetNum.l0 q b (a : Int) (n : Int) (k : Int)) r := fun r h => by
        refine Ev.step (fun q => by simp only [spec_GetNum.l0, e1.out, decide_eq_true hlt]; rfl) ?_
        exact Ev.pos hk5 (Ev.pos (by omega) (Ev.pos (by omega) h))
      have key2 : ∀ r, Ev (fun q => impl_GetNum.j1 q b ((a + k : Nat) : Int) (n : Int) (k : Int) true) r → Ev (fun q => impl_GetNum.l0 q b ((a + k : Nat) : Int) (n : Int) (k : Int)) r := fun r h => by
        refine Ev.step (fun q => by simp only [impl_GetNum.l0, decide_eq_true hlt]; rfl) ?_
        exact Ev.pos hk5 h
      by_cases h127 : 127 < c
      · have hn2 : n + 128 ^ k * (c % 128) < 128 ^ (k + 1) := by
          have := Nat.mul_le_mul_left (128 ^ k) (show c % 128 ≤ 127 by omega)
          rw [Nat.pow_succ]
          omega
        obtain ⟨m, x, ok, s1, s2, s3⟩ := ih (k + 1) (by omega) _ hn2
        refine ⟨m, x, ok, key _ ?_, key2 _ ?_, numAt_more hk4 hd h127 hc255 s3⟩
        · refine Ev.step (fun q => by simp only [spec_GetNum.j1, e1.out, e2.out, e3.out, e4.out, e5.out, e6.out]; rfl) ?_
          exact Ev.pos trivial (Ev.pos ha0 (Ev.pos hlt (Ev.pos h70 (Ev.pos (by omega) s1))))
        · refine Ev.step (fun q => by simp only [impl_GetNum.j1, e2.out, e3.out, e4.out, e5.out, e6.out, e7.out]; rfl) ?_
          exact Ev.pos trivial (Ev.pos ha0 (Ev.pos hlt (Ev.pos h70 (Ev.neg (by omega) s2))))
      · by_cases hz : 0 < k ∧ c = 0
        · obtain ⟨hk0, rfl⟩ := hz
          refine ⟨0, 0, false, key _ ?_, key2 _ ?_, numAt_zero hk0 hd⟩
          · refine Ev.step (fun q => by simp only [spec_GetNum.j1, e1.out, e2.out, e3.out, e4.out, e5.out, e6.out]; rfl) ?_
            exact Ev.pos trivial (Ev.pos ha0 (Ev.pos hlt (Ev.pos h70 (Ev.neg (by omega) (Ev.pos (by omega) (Ev.pos (by omega) (Ev.now _)))))))
          · refine Ev.step (fun q => by simp only [impl_GetNum.j1, e2.out, e3.out, e4.out, e5.out, e6.out, e7.out]; rfl) ?_
            exact Ev.pos trivial (Ev.pos ha0 (Ev.pos hlt (Ev.pos h70 (Ev.pos (by omega) (Ev.pos (by omega) (Ev.pos (by omega) (Ev.now _)))))))
        · obtain ⟨v, hv⟩ : ∃ v, n + 128 ^ k * (c % 128) = v := ⟨_, rfl⟩
          by_cases hg : 1000000000 < v
          · refine ⟨0, 0, false, key _ ?_, key2 _ ?_, numAt_great h127 hd (by rw [hv]; exact hg)⟩
            · refine Ev.step (fun q => by simp only [spec_GetNum.j1, e1.out, e2.out, e3.out, e4.out, e5.out, e6.out, hv]; rfl) ?_
              refine Ev.pos trivial (Ev.pos ha0 (Ev.pos hlt (Ev.pos h70 (Ev.neg (by omega) ?_))))
              by_cases hk0 : 0 < k
              · exact Ev.pos (by omega) (Ev.neg (by omega) (Ev.pos (by omega) (Ev.now _)))
              · exact Ev.neg (by omega) (Ev.pos (by omega) (Ev.now _))
            · refine Ev.step (fun q => by simp only [impl_GetNum.j1, e2.out, e3.out, e4.out, e5.out, e6.out, e7.out, hv]; rfl) ?_
              refine Ev.pos trivial (Ev.pos ha0 (Ev.pos hlt (Ev.pos h70 (Ev.pos (by omega) ?_))))
              by_cases hc0 : c = 0
              · exact Ev.pos (by omega) (Ev.neg (by omega) (Ev.pos (by omega) (Ev.now _)))
              · exact Ev.neg (by omega) (Ev.pos (by omega) (Ev.now _))
          · have hlast := numAt_last (n := n) h127 (fun hk0 => by omega) hx hd (by rw [hv]; omega)
            rw [hv] at hlast
            refine ⟨(v : Int), ((a + k + 1 : Nat) : Int), true, key _ ?_, key2 _ ?_, hlast⟩
            · refine Ev.step (fun q => by simp only [spec_GetNum.j1, e1.out, e2.out, e3.out, e4.out, e5.out, e6.out, e7.out, hv]; rfl) ?_
              refine Ev.pos trivial (Ev.pos ha0 (Ev.pos hlt (Ev.pos h70 (Ev.neg (by omega) ?_))))
              by_cases hk0 : 0 < k
              · exact Ev.pos (by omega) (Ev.neg (by omega) (Ev.neg (by omega) (Ev.now _)))
              · exact Ev.neg (by omega) (Ev.neg (by omega) (Ev.now _))
            · refine Ev.step (fun q => by simp only [impl_GetNum.j1, e2.out, e3.out, e4.out, e5.out, e6.out, e7.out, hv]; rfl) ?_
              refine Ev.pos trivial (Ev.pos ha0 (Ev.pos hlt (Ev.pos h70 (Ev.pos (by omega) ?_))))
              by_cases hc0 : c = 0
              · exact Ev.pos (by omega) (Ev.neg (by omega) (Ev.neg (by omega) (Ev.now _)))
              · exact Ev.neg (by omega) (Ev.neg (by omega) (Ev.now _))
    · refine ⟨0, 0, false, ?_, ?_, numAt_end (by omega)⟩
      · have hn : ¬ ((a + k : Nat) : Int) < (b.length : Int) := by omega
        refine Ev.step (fun q => by simp only [spec_GetNum.l0, e1.out, decide_eq_false hn]; rfl) ?_
        refine Ev.pos hk5 (Ev.pos (by omega) ?_)
        by_cases h2 : (a : Int) < (b.length : Int)
        · exact Ev.pos h2 (sEnd _ _)
        · exact Ev.neg h2 (sEnd _ _)
      · have hn : ¬ ((a + k : Nat) : Int) < (b.length : Int) := by omega
        refine Ev.step (fun q => by simp only [impl_GetNum.l0, decide_eq_false hn]; rfl) ?_
        exact Ev.pos hk5 (iEnd _ _ _)

/-- What is read at a place. -/
def NumOf (b : List Int) (at_ m x : Int) (ok : Bool) : Prop :=
  (ok = false → m = 0 ∧ x = 0 ∧ ∀ (a N : Nat) r, at_ = (a : Int) → b.drop a = num N ++ r → N ≤ 1000000000 → False) ∧
  (ok = true → ∃ a N : Nat, at_ = (a : Int) ∧ m = (N : Int) ∧ N ≤ 1000000000 ∧ b.drop a = num N ++ b.drop (a + (num N).length) ∧ x = ((a + (num N).length : Nat) : Int) ∧ a + (num N).length ≤ b.length)
theorem getNum_both (b : List Int) (hb : InB b) (hl : b.length ≤ 1099511627776) (at_ : Int) (h0 : -9223372036854775808 ≤ at_) (h1 : at_ ≤ 9223372036854775807) : ∃ m x ok, Ev (fun q => spec_GetNum.f q b at_) (m, x, ok) ∧ Ev (fun q => impl_GetNum.f q b at_) (m, x, ok) ∧ NumOf b at_ m x ok := by
  have hw : wrap64 ((b.length : Int) - 1) = (b.length : Int) - 1 := w64 (by omega) (by omega)
  by_cases hr : 0 ≤ at_ ∧ at_ ≤ (b.length : Int) - 1
  · obtain ⟨a, rfl⟩ := Int.eq_ofNat_of_zero_le hr.1
    obtain ⟨m, x, ok, s1, s2, s3⟩ := getNum_loop b hb hl a (by omega) 5 0 rfl 0 (by decide)
    refine ⟨m, x, ok, ?_, ?_, ?_⟩
    · exact s1
    · unfold impl_GetNum.f
      rw [hw]
      exact Ev.bind (Ev.const (impl_in_eq _ _ _)) (Ev.pos (decide_eq_true hr) s2)
    · refine ⟨fun ho => ?_, fun ho => ?_⟩
      · obtain ⟨q1, q2, q3⟩ := s3.1 ho
        refine ⟨q1, q2, fun a' N r ha' hN hM => ?_⟩
        obtain rfl : a = a' := by omega
        exact q3 N r hN (by simpa using hM) (fun h => by omega)
      · obtain ⟨N, q1, q2, _, q4, q5, q6⟩ := s3.2 ho
        exact ⟨a, N, rfl, by simpa using q1, by simpa using q2, by simpa using q4, by simpa using q5, by simpa using q6⟩
  · refine ⟨0, 0, false, ?_, ?_, ?_⟩
    · unfold spec_GetNum.f
      refine Ev.step (fun q => by simp only [spec_GetNum.l0]; rfl) ?_
      have hj : ∀ x : Bool, x = false → Ev (fun q => spec_GetNum.j1 q b at_ 0 0 x) (0, 0, false) := fun x hx => by
        subst hx
        refine Ev.step (fun q => by simp only [spec_GetNum.j1]; rfl) ?_
        exact Ev.neg (by simp) (Ev.now _)
      refine Ev.pos (by decide) ?_
      by_cases h2 : at_ ≥ 0
      · refine Ev.pos h2 (Ev.neg (by omega) (hj _ rfl))
      · exact Ev.neg h2 (hj _ rfl)
    · unfold impl_GetNum.f
      rw [hw]
      exact Ev.bind (Ev.const (impl_in_eq _ _ _)) (Ev.neg (by rw [decide_eq_false hr]; simp) (Ev.now _))
    · refine ⟨fun _ => ⟨rfl, rfl, fun a N r ha hN hM => ?_⟩, fun h => by cases h⟩
      have h2 := num_pos N
      have := congrArg List.length hN
      rw [List.length_append, List.length_drop] at this
      omega
end Go.Proofs.Ytjnnglphdaemaaa.Q
end

-- Joined and shortened by a program of this session (wip/tools/shakecopy.py): the words of the print, texts of pp.sh and of mine.
import Derived.Test.YtjnnglphdaemaaaKFnExactMakeSure2
import Derived.Test.YtjnnglphdaemaaaProg
import Derived.Below
import Derived.Deep.Draws
import Derived.Deep.AppendLies
import Derived.Maps.AppendAt
import Derived.OwnWalk
import Derived.Laws.BytesArg
import Derived.Laws.MakeOwn
import Derived.Laws.OwnMore
import Derived.Deep.OwnRows
import Derived.Tactics
import Derived.Lib.ConvBytes
import Derived.Laws.Slices
import Derived.WalkKit
import Derived.KernelRfl
import Derived.RowKit3
import Derived.Deep.LoopGhost
import Derived.Deep.QuietTactic
import Derived.BigQuiet
import Derived.WideLaws
import Derived.Deep.DeepCutAuto
import Derived.Deep.CutBlock
import Derived.Deep.RegionHeld3
import Derived.Laws.Rows
import Derived.Lib.AppendStr
import Derived.ArgAppend
import Derived.Laws.IdiomCopy
import Derived.OrdersHeld
import Derived.Laws.BitsLemmas
import Derived.RowKit
import Derived.Lib.SliceRun
import Derived.RegionTactic
import Derived.IntWalk
section
-- Written by a program of this session (wip/tools/pp.sh) over the print of the kit.
namespace Go.Proofs.Ytjnnglphdaemaaa.Q
open Go.RowKit Go.Proofs.YtjnnglphdaemaaaW.PrintWords Go.Proofs.YtjnnglphdaemaaaW.PrintLast Go.Proofs.YtjnnglphdaemaaaW.PrintMore
attribute [local go_sem] max2_int min2_int max_two min_two max_three min_three max_four min_four   -- for this text's walks alone
set_option linter.unusedVariables false
set_option linter.unusedSimpArgs false
def errW : Option Int → Value
 | none => .nilIface
 | some c => .iface 0 (.int .i64 c)
theorem errW_none : errW none = .nilIface := rfl
theorem errW_some (c : Int) : errW (some c) = .iface 0 (.int .i64 c) := rfl
theorem info3 : (Try.prog.info? 3).map (fun i => (i.zero, i.size, i.bytes)) = some (some (.int .i64 0), 1, 8) := by kernel_rfl
theorem info5 : (Try.prog.info? 5).map (fun i => (i.zero, i.size, i.bytes)) = some (some (.int .u8 0), 1, 1) := by kernel_rfl
theorem info9 : (Try.prog.info? 9).map (fun i => (i.zero, i.size, i.bytes)) = some (some (.string ⟨#[]⟩), 1, 16) := by kernel_rfl
structure S28 where
 f0 : Int
 f1 : ByteArray
structure S31 where
 f0 : (List ByteArray)
 f1 : S28
structure S37 where
 f0 : S31
 f1 : (List Int)
 f2 : Int
structure S47 where
 f0 : Int
 f1 : ByteArray
def k47 : Kd S47 := Kd.iso (Kd.pair (Kd.int .i64) Kd.string) (fun x : S47 => (x.f0, x.f1))
theorem k47_open {w : World} {x : S47} {cs : List Value} (h : k47.K w x cs) : cs = [.int .i64 x.f0, .string x.f1] := by
 obtain ⟨_, _, rfl, rfl, rfl⟩ := h
 exact rfl
structure S49 where
 f0 : (List ByteArray)
 f1 : S47
def k49 : Kd S49 := Kd.iso (Kd.pair (Kd.slice 9 Kd.string) k47) (fun x : S49 => (x.f0, x.f1))
theorem k49_open {w : World} {x : S49} {cs : List Value} (h : k49.K w x cs) : ∃ A0 c0, cs = [.slice A0 x.f0.length c0, .int .i64 x.f1.f0, .string x.f1.f1] ∧ x.f0.length ≤ c0 ∧ Kd.string.C w A0 x.f0.length x.f0 := by
 obtain ⟨_, _, rfl, ⟨A0, c0, rfl, l0, g0⟩, s1⟩ := h
 obtain rfl := k47_open s1
 exact ⟨A0, c0, rfl, l0, g0⟩
structure S71 where
 f0 : S49
 f1 : (List Int)
 f2 : Int
def k71 : Kd S71 := Kd.iso (Kd.pair k49 (Kd.pair (Kd.slice 5 (Kd.int .u8)) (Kd.int .i64))) (fun x : S71 => (x.f0, x.f1, x.f2))
theorem k71_open {w : World} {x : S71} {cs : List Value} (h : k71.K w x cs) : ∃ A0 c0 A3 c3, cs = [.slice A0 x.f0.f0.length c0, .int .i64 x.f0.f1.f0, .string x.f0.f1.f1, .slice A3 x.f1.length c3, .int .i64 x.f2] ∧ x.f0.f0.length ≤ c0 ∧ Kd.string.C w A0 x.f0.f0.length x.f0.f0 ∧ x.f1.length ≤ c3 ∧ (Kd.int .u8).C w A3 x.f1.length x.f1 := by
 obtain ⟨_, _, rfl, s0, ⟨_, _, rfl, ⟨A3, c3, rfl, l3, g3⟩, rfl⟩⟩ := h
 obtain ⟨A0, c0, rfl, l0, g0⟩ := k49_open s0
 exact ⟨A0, c0, A3, c3, rfl, l0, g0, l3, g3⟩
structure S78 where
 f0 : Int
 f1 : S71
 f2 : S47
end Go.Proofs.Ytjnnglphdaemaaa.Q
end

section
-- Written by a program of this session (wip/tools/pp.sh) over the print of the kit.
namespace Go.Proofs.Ytjnnglphdaemaaa.Q
open Go.RowKit Go.Proofs.YtjnnglphdaemaaaW.PrintWords Go.Proofs.YtjnnglphdaemaaaW.PrintLast Go.Proofs.YtjnnglphdaemaaaW.PrintMore
attribute [local go_sem] max2_int min2_int max_two min_two max_three min_three max_four min_four   -- for this text's walks alone
set_option linter.unusedVariables false
set_option linter.unusedSimpArgs false
def laws_szHead.f (a0_0 : Int) (a0_1 : ByteArray) (a1 : Int) : Option (Int) := if (wrap64 (a1 - (a0_1.size : Int))) < 0 then (some (-1)) else (some (wrap64 (a1 - (a0_1.size : Int))))
set_option maxHeartbeats 8000000 in
set_option maxRecDepth 100000 in
theorem laws_szHead.calls (a0_0 : Int) (a0_1 : ByteArray) (a1 : Int) (r : Int) (w : World) (h : laws_szHead.f a0_0 a0_1 a1 = some r) :
  Calls Try.prog 25 #[.agg #[.int .i64 a0_0, .string a0_1], .int .i64 a1] w fun e w' => e = .returned (.int .i64 r) ∧ Below w.heap.size w w' := by
 have hu47 := Try.underlying47
 have HB := Aside0.mk (Below.refl w.heap.size w)
 have H : (if (wrap64 (a1 - (a0_1.size : Int))) < 0 then (some (-1)) else (some (wrap64 (a1 - (a0_1.size : Int))))) = some r := h
 clear h
 replace H := itd_ H; obtain ⟨c3b0, H⟩ | ⟨c3b0, H⟩ := H
 ·obtain rfl := Option.some.inj H
  go_enter Try.func25, Try.ntmps25
  go_wp2_with (first | ((with_reducible refine gd_ 2 ?_); refine bx_ 2 47 #[.int .i64 a0_0, .string a0_1] ?_; intro gb601 hg w4 hbox hb; have BK601 := Aside0.mk hbox; have GW601 := gg_ hg HB; have GE601 := GW601; replace HB := ss_ HB hb; clear hb hbox hg; have hz5 := cz2_ BK601))
  go_ret
  exact ⟨e2_, bw_ HB⟩
 ·obtain rfl := Option.some.inj H
  go_enter Try.func25, Try.ntmps25
  go_wp2_with (first | ((with_reducible refine gd_ 2 ?_); refine bx_ 2 47 #[.int .i64 a0_0, .string a0_1] ?_; intro gb601 hg w6 hbox hb; have BK601 := Aside0.mk hbox; have GW601 := gg_ hg HB; have GE601 := GW601; replace HB := ss_ HB hb; clear hb hbox hg; have hz7 := cz2_ BK601))
  go_ret
  exact ⟨e2_, bw_ HB⟩
end Go.Proofs.Ytjnnglphdaemaaa.Q
end

section
-- Written by a program of this session (wip/tools/pp.sh) over the print of the kit.
namespace Go.Proofs.Ytjnnglphdaemaaa.Q
open Go.RowKit Go.Proofs.YtjnnglphdaemaaaW.PrintWords Go.Proofs.YtjnnglphdaemaaaW.PrintLast Go.Proofs.YtjnnglphdaemaaaW.PrintMore
attribute [local go_sem] max2_int min2_int max_two min_two max_three min_three max_four min_four   -- for this text's walks alone
set_option linter.unusedVariables false
set_option linter.unusedSimpArgs false
def laws_toHead.f (a0_0 : Int) (a0_1 : ByteArray) : Option (Int × ByteArray) := some (a0_0, a0_1)
set_option maxHeartbeats 8000000 in
set_option maxRecDepth 100000 in
theorem laws_toHead.calls (a0_0 : Int) (a0_1 : ByteArray) (r1 : Int) (r2 : ByteArray) (w : World) (h : laws_toHead.f a0_0 a0_1 = some (r1, r2)) :
  Calls Try.prog 29 #[.agg #[.int .i64 a0_0, .string a0_1]] w fun e w' => e = .returned (.agg #[.int .i64 r1, .string r2]) ∧ Below w.heap.size w w' := by
 have hu47 := Try.underlying47
 have hu28 := Try.underlying28
 have HB := Aside0.mk (Below.refl w.heap.size w)
 have H : (some (a0_0, a0_1)) = some (r1, r2) := h
 clear h
 replace H := so2_ H; obtain ⟨rfl, rfl⟩ := H
 go_enter Try.func29, Try.ntmps29
 go_wp2_with (first | ((with_reducible refine gd_ 1 ?_); refine bx_ 1 47 #[.int .i64 a0_0, .string a0_1] ?_; intro gb601 hg w2 hbox hb; have BK601 := Aside0.mk hbox; have GW601 := gg_ hg HB; have GE601 := GW601; replace HB := ss_ HB hb; clear hb hbox hg) | ((with_reducible refine gd_ 2 ?_); refine bx_ 2 28 #[.int .i64 0, .string (⟨#[]⟩ : ByteArray)] ?_; intro gb602 hg w3 hbox hb; have BK602 := Aside0.mk hbox; have GW602 := gg_ hg HB; have GE602 := GW602; replace HB := ss_ HB hb; have NB601_602 := nla_ hg BK601; have NB602_601 := nga_ hg BK601; replace BK601 := kl_ BK601 hb; clear hb hbox hg) | ((with_reducible refine gd_ 3 ?_); refine bx_ 3 28 #[.int .i64 0, .string (⟨#[]⟩ : ByteArray)] ?_; intro gb603 hg w4 hbox hb; have BK603 := Aside0.mk hbox; have GW603 := gg_ hg HB; have GE603 := GW603; replace HB := ss_ HB hb; have NB601_603 := nla_ hg BK601; have NB603_601 := nga_ hg BK601; replace BK601 := kl_ BK601 hb; have NB602_603 := Aside0.mk ((by rw [hg]; exact Nat.ne_of_lt (blk_lt (kb_ BK602.out)) : gb602 ≠ gb603)); have NB603_602 := Aside0.mk ((by rw [hg]; exact Nat.ne_of_gt (blk_lt (kb_ BK602.out)) : gb603 ≠ gb602)); replace BK602 := kl_ BK602 hb; clear hb hbox hg; have hnb5 := NB601_602.out; have hnc5 := NB602_601.out; have hnb6 := NB601_603.out; have hnc6 := NB603_601.out; have hz7 := cz2_ BK601; have hnb8 := NB603_602.out; have hnc8 := NB602_603.out; have hz9 := cz2_ BK603; have hz10 := cz2_ BK602))
 refine bodyPost_ret (results_cell_row rfl _ _ gb602 28 #[.int .i64 a0_0, .string a0_1] (0, 0) _ rfl (by exact kq_ BK602) Try.underlying28 rfl (by kernel_rfl)) rfl ?_
 exact ⟨e2_, bw_ HB⟩
end Go.Proofs.Ytjnnglphdaemaaa.Q
end

section
-- Written by a program of this session (wip/tools/pp.sh) over the print of the kit.
namespace Go.Proofs.Ytjnnglphdaemaaa.Q
open Go.RowKit Go.Proofs.YtjnnglphdaemaaaW.PrintWords Go.Proofs.YtjnnglphdaemaaaW.PrintLast Go.Proofs.YtjnnglphdaemaaaW.PrintMore
attribute [local go_sem] max2_int min2_int max_two min_two max_three min_three max_four min_four   -- for this text's walks alone
set_option linter.unusedVariables false
set_option linter.unusedSimpArgs false
def laws_eqHead.f (a0_0 : Int) (a0_1 : ByteArray) (a1_0 : Int) (a1_1 : ByteArray) : Option (Bool) := if a0_0 = a1_0 then (if a0_1.toList = a1_1.toList then (some true) else (none)) else (none)
set_option maxHeartbeats 8000000 in
set_option maxRecDepth 100000 in
theorem laws_eqHead.calls (a0_0 : Int) (a0_1 : ByteArray) (a1_0 : Int) (a1_1 : ByteArray) (r : Bool) (w : World) (h : laws_eqHead.f a0_0 a0_1 a1_0 a1_1 = some r) :
  Calls Try.prog 81 #[.agg #[.int .i64 a0_0, .string a0_1], .agg #[.int .i64 a1_0, .string a1_1]] w fun e w' => e = .returned (.bool r) ∧ Below w.heap.size w w' := by
 have hu28 := Try.underlying28
 have HB := Aside0.mk (Below.refl w.heap.size w)
 have H : (if a0_0 = a1_0 then (if a0_1.toList = a1_1.toList then (some true) else (none)) else (none)) = some r := h
 clear h
 replace H := ip_ H; obtain ⟨c3, H⟩ := H
 have c3b0 : (a0_0 == a1_0) = true := beq_iff_eq.mpr c3
 have c3b1 : (a0_0 != a1_0) = false := bne_eq_false_iff_eq.mpr c3
 clear c3
 replace H := ip_ H; obtain ⟨c4, H⟩ := H
 have c4b0 : (a0_1.toList == a1_1.toList) = true := beq_iff_eq.mpr c4
 have c4b1 : (a0_1.toList != a1_1.toList) = false := bne_eq_false_iff_eq.mpr c4
 clear c4
 obtain rfl := Option.some.inj H
 go_enter Try.func81, Try.ntmps81
 go_wp2_with (first | ((with_reducible refine gd_ 2 ?_); refine bx_ 2 28 #[.int .i64 a0_0, .string a0_1] ?_; intro gb601 hg w5 hbox hb; have BK601 := Aside0.mk hbox; have GW601 := gg_ hg HB; have GE601 := GW601; replace HB := ss_ HB hb; clear hb hbox hg) | ((with_reducible refine gd_ 3 ?_); refine bx_ 3 28 #[.int .i64 a1_0, .string a1_1] ?_; intro gb602 hg w6 hbox hb; have BK602 := Aside0.mk hbox; have GW602 := gg_ hg HB; have GE602 := GW602; replace HB := ss_ HB hb; have NB601_602 := nla_ hg BK601; have NB602_601 := nga_ hg BK601; replace BK601 := kl_ BK601 hb; clear hb hbox hg; have hnb7 := NB601_602.out; have hnc7 := NB602_601.out; have hz8 := cz2_ BK601; have hz9 := cz2_ BK602))
 go_ret
 exact ⟨e2_, bw_ HB⟩
end Go.Proofs.Ytjnnglphdaemaaa.Q
end

section
-- Written by a program of this session (wip/tools/pp.sh) over the print of the kit.
namespace Go.Proofs.Ytjnnglphdaemaaa.Q
open Go.RowKit Go.Proofs.YtjnnglphdaemaaaW.PrintWords Go.Proofs.YtjnnglphdaemaaaW.PrintLast Go.Proofs.YtjnnglphdaemaaaW.PrintMore
attribute [local go_sem] max2_int min2_int max_two min_two max_three min_three max_four min_four   -- for this text's walks alone
set_option linter.unusedVariables false
set_option linter.unusedSimpArgs false
def spec_l1In.f (a0 : Int) (a1 : Int) (a2 : Int) : Option (Bool) := if a0 ≥ a1 then (some (decide (a0 ≤ a2))) else (some false)
set_option maxHeartbeats 8000000 in
set_option maxRecDepth 100000 in
theorem spec_l1In.calls (a0 : Int) (a1 : Int) (a2 : Int) (r : Bool) (w : World) (h : spec_l1In.f a0 a1 a2 = some r) :
  Calls Try.prog 90 #[.int .i64 a0, .int .i64 a1, .int .i64 a2] w fun e w' => e = .returned (.bool r) ∧ Drawn0 w w' := by
 have H : (if a0 ≥ a1 then (some (decide (a0 ≤ a2))) else (some false)) = some r := h
 clear h
 replace H := it_ H; obtain ⟨c4, H⟩ | ⟨c4, H⟩ := H
 ·have c4b0 : decide (a1 ≤ a0) = true := decide_eq_true c4
  clear c4
  obtain rfl := Option.some.inj H
  go_enter Try.func90, Try.ntmps90
  go_wp2
  go_ret
  exact ⟨e1_, dw_⟩
 ·have c4b0 : decide (a1 ≤ a0) = false := decide_eq_false c4
  clear c4
  obtain rfl := Option.some.inj H
  go_enter Try.func90, Try.ntmps90
  go_wp2
  go_ret
  exact ⟨e1_, dw_⟩
end Go.Proofs.Ytjnnglphdaemaaa.Q
end

section
-- Written by a program of this session (wip/tools/pp.sh) over the print of the kit.
namespace Go.Proofs.Ytjnnglphdaemaaa.Q
open Go.RowKit Go.Proofs.YtjnnglphdaemaaaW.PrintWords Go.Proofs.YtjnnglphdaemaaaW.PrintLast Go.Proofs.YtjnnglphdaemaaaW.PrintMore
attribute [local go_sem] max2_int min2_int max_two min_two max_three min_three max_four min_four   -- for this text's walks alone
set_option linter.unusedVariables false
set_option linter.unusedSimpArgs false
def impl_inRange.f (a0 : Int) (a1 : Int) (a2 : Int) : Option (Bool) := if a0 ≥ a1 then (some (decide (a0 ≤ a2))) else (some false)
set_option maxHeartbeats 8000000 in
set_option maxRecDepth 100000 in
theorem impl_inRange.calls (a0 : Int) (a1 : Int) (a2 : Int) (r : Bool) (w : World) (h : impl_inRange.f a0 a1 a2 = some r) :
  Calls Try.prog 67 #[.int .i64 a0, .int .i64 a1, .int .i64 a2] w fun e w' => e = .returned (.bool r) ∧ Drawn0 w w' := by
 have H : (if a0 ≥ a1 then (some (decide (a0 ≤ a2))) else (some false)) = some r := h
 clear h
 replace H := it_ H; obtain ⟨c4, H⟩ | ⟨c4, H⟩ := H
 ·have c4b0 : decide (a1 ≤ a0) = true := decide_eq_true c4
  clear c4
  obtain rfl := Option.some.inj H
  go_enter Try.func67, Try.ntmps67
  go_wp2
  go_ret
  exact ⟨e1_, dw_⟩
 ·have c4b0 : decide (a1 ≤ a0) = false := decide_eq_false c4
  clear c4
  obtain rfl := Option.some.inj H
  go_enter Try.func67, Try.ntmps67
  go_wp2
  go_ret
  exact ⟨e1_, dw_⟩
end Go.Proofs.Ytjnnglphdaemaaa.Q
end

section
/- What the laws' own helpers do with heads and lists of heads, and that the program's and the reference's HeadOk are one. -/
namespace Go.Proofs.Ytjnnglphdaemaaa.Q
open Go.RowKit Go.Proofs.Ytjnnglphdaemaaa.B Go.Proofs.YtjnnglphdaemaaaW.PrintWords

theorem spec_in_eq (a b c : Int) : spec_l1In.f a b c = some (decide (b ≤ a ∧ a ≤ c)) := by
  unfold spec_l1In.f
  by_cases h : a ≥ b
  · rw [if_pos h]
    by_cases h2 : a ≤ c
    · rw [decide_eq_true h2, decide_eq_true ⟨h, h2⟩]
    · rw [decide_eq_false h2, decide_eq_false (fun q => h2 q.2)]
  · rw [if_neg h, decide_eq_false (fun q => h q.1)]
theorem impl_in_eq (a b c : Int) : impl_inRange.f a b c = some (decide (b ≤ a ∧ a ≤ c)) := spec_in_eq a b c

theorem szHead_eq (n : Int) (s : ByteArray) (left : Int) (h0 : 0 ≤ left) (h1 : left ≤ 1048576) (hs : s.size ≤ 9223372036854775807) :
    ∃ r, laws_szHead.f n s left = some r ∧ (r < 0 ∨ 0 ≤ r ∧ r + s.size = left) := by
  unfold laws_szHead.f
  rw [w64 (by omega) (by omega)]
  by_cases h : left - (s.size : Int) < 0
  · exact ⟨-1, if_pos h, .inl (by omega)⟩
  · exact ⟨_, if_neg h, .inr ⟨by omega, by omega⟩⟩
theorem toHead_eq (n : Int) (s : ByteArray) : laws_toHead.f n s = some (n, s) := rfl
theorem eqHead_eq (n : Int) (s : ByteArray) : laws_eqHead.f n s n s = some true := by
  unfold laws_eqHead.f
  rw [if_pos rfl, if_pos rfl]
end Go.Proofs.Ytjnnglphdaemaaa.Q
end

section
-- Written by a program of this session (wip/tools/pp.sh) over the print of the kit.
namespace Go.Proofs.Ytjnnglphdaemaaa.Q
open Go.RowKit Go.Proofs.YtjnnglphdaemaaaW.PrintWords Go.Proofs.YtjnnglphdaemaaaW.PrintLast Go.Proofs.YtjnnglphdaemaaaW.PrintMore
attribute [local go_sem] max2_int min2_int max_two min_two max_three min_three max_four min_four   -- for this text's walks alone
set_option linter.unusedVariables false
set_option linter.unusedSimpArgs false
def laws_szStringS.l0 : Nat → List ByteArray → Int → Int → Option (Int)
 | 0, _, _, _ => none
 | k + 1, x0, x1, x5 => if x5 < (x0.length : Int) then (if 0 ≤ x5 then (if (wrap64 (x1 - ((rdOf ByteArray.empty x0 x5).size : Int))) < 0 then (some (-1)) else (laws_szStringS.l0 k x0 (wrap64 (x1 - ((rdOf ByteArray.empty x0 x5).size : Int))) (wrap64 (x5 + 1)))) else (none)) else (some x1)
def laws_szStringS.f (k : Nat) (l0 : List ByteArray) (a1 : Int) : Option (Int) := if (wrap64 (a1 - (l0.length : Int))) < 0 then (some (-1)) else (laws_szStringS.l0 k l0 (wrap64 (a1 - (l0.length : Int))) 0)
theorem laws_szStringS.mono_l : ∀ k, (∀ y0 y1 y2, LeO (laws_szStringS.l0 k y0 y1 y2) (laws_szStringS.l0 (k + 1) y0 y1 y2))
 | 0 => fun _ _ _ r h => by simp [laws_szStringS.l0] at h
 | k + 1 => by
  have ih0 := laws_szStringS.mono_l k
  ·intro y0 y1 y2
   unfold laws_szStringS.l0
   repeat' (with_reducible first | exact LeO.refl _ | exact LeO.none _ | apply ih0 | apply LeO.ite | refine LeO.bind ?_ fun _ => ?_)
theorem laws_szStringS.mono : ∀ a0 a1 k, LeO (laws_szStringS.f k a0 a1) (laws_szStringS.f (k + 1) a0 a1) := by
 intro a0 a1 k
 have ih0 := laws_szStringS.mono_l k
 unfold laws_szStringS.f
 repeat' (with_reducible first | exact LeO.refl _ | exact LeO.none _ | apply ih0 | apply LeO.ite | refine LeO.bind ?_ fun _ => ?_)
set_option maxHeartbeats 8000000 in
set_option maxRecDepth 100000 in
theorem laws_szStringS.calls (k : Nat) (A0 : Option Addr) (c0 : Nat) (l0 : List ByteArray) (a1 : Int) (r : Int) (w : World) (hr0 : Kd.C Kd.string w A0 l0.length l0) (hc0 : l0.length ≤ c0) (h : laws_szStringS.f k l0 a1 = some r) :
  Calls Try.prog 26 #[.slice A0 l0.length c0, .int .i64 a1] w fun e w' => e = .returned (.int .i64 r) ∧ Drawn0 w w' := by
 have HR0 := Aside0.mk hr0
 have HC0 := Aside0.mk hc0
 clear hr0 hc0
 have H : (if (wrap64 (a1 - (l0.length : Int))) < 0 then (some (-1)) else (laws_szStringS.l0 k l0 (wrap64 (a1 - (l0.length : Int))) 0)) = some r := h
 clear h
 replace H := itd_ H; obtain ⟨c3b0, H⟩ | ⟨c3b0, H⟩ := H
 ·obtain rfl := Option.some.inj H
  go_enter Try.func26, Try.ntmps26
  go_wp2
  go_ret
  exact ⟨e1_, dw_⟩
 ·have H' := Aside0.mk H
  clear H
  go_enter Try.func26, Try.ntmps26
  go_wp2
  go_loopg [1, 5] k (fun kq v1 v5 w' => ∃ (x1_1 : Int) (x5_1 : Int), v1 = .int .i64 x1_1 ∧ v5 = .int .i64 x5_1 ∧ Aside0 (laws_szStringS.l0 kq l0 x1_1 x5_1 = some r) ∧ Aside0 (kq ≤ k) ∧ Drawn0 w w')
  case atStart => exact ⟨(wrap64 (a1 - (l0.length : Int))), (0), e1_, e1_, H', ⟨Nat.le_refl _⟩, dw_⟩
  case round =>
   clear H'
   try clear c3b0
   obtain ⟨x1_1, x5_1, rfl, rfl, HA, HK1, ⟨m1, rfl⟩⟩ := hrel
   cases gk with
   | zero => exact absurd HA.out (by simp [laws_szStringS.l0])
   | succ k1 =>
    have H := HA.out
    clear HA
    simp only [laws_szStringS.l0] at H
    replace H := itd_ H; obtain ⟨c4b0, H⟩ | ⟨c4b0, H⟩ := H
    ·replace H := ipd_ H; obtain ⟨c5b0, H⟩ := H
     replace H := itd_ H; obtain ⟨c6b0, H⟩ | ⟨c6b0, H⟩ := H
     ·obtain rfl := Option.some.inj H
      have p601 : 0 ≤ (x5_1 : Int) := of_decide_eq_true as_
      have q601 : x5_1 < (l0.length : Int) := of_decide_eq_true as_
      obtain ⟨ad601, e601, hx601_0⟩ := Kd.at_string HR0.out x5_1 p601 q601
      cases e601
      replace p601 := eq_true p601
      replace q601 := eq_true q601
      go_wp2
      go_ret
      exact ⟨e1_, dw_⟩
     ·have H' := Aside0.mk H
      clear H
      have p601 : 0 ≤ (x5_1 : Int) := of_decide_eq_true as_
      have q601 : x5_1 < (l0.length : Int) := of_decide_eq_true as_
      obtain ⟨ad601, e601, hx601_0⟩ := Kd.at_string HR0.out x5_1 p601 q601
      cases e601
      replace p601 := eq_true p601
      replace q601 := eq_true q601
      go_wp2
      go_roundg k1
      case measure => have := HK1.out; omega
      case rel => exact ⟨(wrap64 (x1_1 - ((rdOf ByteArray.empty l0 x5_1).size : Int))), (wrap64 (x5_1 + 1)), e1_, e1_, H', ⟨by have := HK1.out; omega⟩, dw_⟩
    ·obtain rfl := Option.some.inj H
     go_wp2
     go_ret
     exact ⟨e1_, dw_⟩
end Go.Proofs.Ytjnnglphdaemaaa.Q
end

section
-- Written by a program of this session (wip/tools/pp.sh) over the print of the kit.
namespace Go.Proofs.Ytjnnglphdaemaaa.Q
open Go.RowKit Go.Proofs.YtjnnglphdaemaaaW.PrintWords Go.Proofs.YtjnnglphdaemaaaW.PrintLast Go.Proofs.YtjnnglphdaemaaaW.PrintMore
attribute [local go_sem] max2_int min2_int max_two min_two max_three min_three max_four min_four   -- for this text's walks alone
set_option linter.unusedVariables false
set_option linter.unusedSimpArgs false
def laws_toStringS.l0 : Nat → List ByteArray → List ByteArray → Int → Option (List ByteArray)
 | 0, _, _, _ => none
 | k + 1, x0, x3, x4 => if x4 < (x0.length : Int) then (if 0 ≤ x4 then (if x4 < (x3.length : Int) then (laws_toStringS.l0 k x0 (x3.set (x4 : Int).toNat (rdOf ByteArray.empty x0 x4)) (wrap64 (x4 + 1))) else (none)) else (none)) else (some x3)
def laws_toStringS.f (k : Nat) (l0 : List ByteArray) : Option (List ByteArray) := if 0 ≤ (l0.length : Int) then (if ((l0.length : Int) : Int).toNat ≤ 17592186044416 then (laws_toStringS.l0 k l0 (List.replicate ((l0.length : Int) : Int).toNat (⟨#[]⟩ : ByteArray)) 0) else (none)) else (none)
theorem laws_toStringS.mono_l : ∀ k, (∀ y0 y1 y2, LeO (laws_toStringS.l0 k y0 y1 y2) (laws_toStringS.l0 (k + 1) y0 y1 y2))
 | 0 => fun _ _ _ r h => by simp [laws_toStringS.l0] at h
 | k + 1 => by
  have ih0 := laws_toStringS.mono_l k
  ·intro y0 y1 y2
   unfold laws_toStringS.l0
   repeat' (with_reducible first | exact LeO.refl _ | exact LeO.none _ | apply ih0 | apply LeO.ite | refine LeO.bind ?_ fun _ => ?_)
theorem laws_toStringS.mono : ∀ a0 k, LeO (laws_toStringS.f k a0) (laws_toStringS.f (k + 1) a0) := by
 intro a0 k
 have ih0 := laws_toStringS.mono_l k
 unfold laws_toStringS.f
 repeat' (with_reducible first | exact LeO.refl _ | exact LeO.none _ | apply ih0 | apply LeO.ite | refine LeO.bind ?_ fun _ => ?_)
set_option maxHeartbeats 8000000 in
set_option maxRecDepth 100000 in
theorem laws_toStringS.calls (k : Nat) (A0 : Option Addr) (c0 : Nat) (l0 : List ByteArray) (r : List ByteArray) (w : World) (hr0 : Kd.C Kd.string w A0 l0.length l0) (hc0 : l0.length ≤ c0) (h : laws_toStringS.f k l0 = some r) :
  Calls Try.prog 30 #[.slice A0 l0.length c0] w fun e w' => ∃ v0_ : Value, e = .returned (v0_) ∧ Kd.R Kd.string 9 w' w.heap.size (fun _ => True) v0_ r ∧ Below w.heap.size w w' := by
 have HR0 := Aside0.mk hr0
 have HC0 := Aside0.mk hc0
 clear hr0 hc0
 have HB := Aside0.mk (Below.refl w.heap.size w)
 have H : (if 0 ≤ (l0.length : Int) then (if ((l0.length : Int) : Int).toNat ≤ 17592186044416 then (laws_toStringS.l0 k l0 (List.replicate ((l0.length : Int) : Int).toNat (⟨#[]⟩ : ByteArray)) 0) else (none)) else (none)) = some r := h
 clear h
 replace H := ip_ H; obtain ⟨c2, H⟩ := H
 have c2b0 := eq_true c2
 have c2b1 := decide_eq_true c2
 clear c2
 replace H := ip_ H; obtain ⟨c3, H⟩ := H
 have c3b0 := eq_true c3
 have c3b1 := decide_eq_true c3
 clear c3
 obtain ⟨y601, hy601⟩ : ∃ y_ : List ByteArray, y_ = (List.replicate ((l0.length : Int) : Int).toNat (⟨#[]⟩ : ByteArray)) := ⟨_, rfl⟩
 replace H : (laws_toStringS.l0 k l0 y601 0) = some r := yh_ hy601 H
 have Ny601 := Aside0.mk hy601
 clear hy601
 have H' := Aside0.mk H
 clear H
 go_enter Try.func30, Try.ntmps30
 go_wp2_with (first | ((with_reducible refine gd_ 7 ?_); refine Kd.R_make Kd.string _ 9 rfl (N := 7) rfl 24 _ _ rfl (l0.length : Int) rfl rfl Try.underlying24 (.string ⟨#[]⟩) 16 info9 rfl (by decide) (by omega) (⟨#[]⟩ : ByteArray) (ok := fun _ => True) (okp := fun _ => True) rfl (fun _ hk => hk) trivial (of_decide_eq_true as_) (Nat.le_trans (Nat.mul_le_mul_right _ (of_decide_eq_true as_ : (l0.length : Int).toNat ≤ 17592186044416)) (by omega)) (Below.refl _ _) (Nat.le_refl _) ?_; intro v602 w4 ho5 hb hg_ hnew_; clear hg_ hnew_; (first | rw [← Ny601.out] at ho5 | (simp only [Int.reduceToNat] at ho5; rw [← Ny601.out] at ho5)); have HO603 := Aside0.mk (Kd.R_lower ho5 (sz_ HB)); replace HB := ss_ HB hb; clear hb ho5))
 go_loopg [4] k (fun kq v4 w' => ∃ (x3_1 : List ByteArray) (x4_1 : Int), v4 = .int .i64 x4_1 ∧ Aside0 (laws_toStringS.l0 kq l0 x3_1 x4_1 = some r) ∧ Aside0 (kq ≤ k) ∧ Aside0 (Kd.R Kd.string 9 w' w.heap.size (fun _ => True) v602 x3_1) ∧ Aside0 (Below w.heap.size w w'))
 case atStart => exact ⟨(y601), (0), e1_, H', ⟨Nat.le_refl _⟩, ⟨kr_ HO603.out⟩, ⟨bw_ HB⟩⟩
 case round =>
  clear H'
  try clear c2
  try clear c2b0
  try clear c2b1
  try clear c3
  try clear c3b0
  try clear c3b1
  obtain ⟨x3_1, x4_1, rfl, HA, HK1, HO_3, HB⟩ := hrel
  cases gk with
  | zero => exact absurd HA.out (by simp [laws_toStringS.l0])
  | succ k1 =>
   have H := HA.out
   clear HA
   simp only [laws_toStringS.l0] at H
   replace H := itd_ H; obtain ⟨c6b0, H⟩ | ⟨c6b0, H⟩ := H
   ·replace H := ipd_ H; obtain ⟨c7b0, H⟩ := H
    replace H := ipd_ H; obtain ⟨c8b0, H⟩ := H
    obtain ⟨y605, hy605⟩ : ∃ y_ : List ByteArray, y_ = (x3_1.set (x4_1 : Int).toNat (rdOf ByteArray.empty l0 x4_1)) := ⟨_, rfl⟩
    replace H : (laws_toStringS.l0 k1 l0 y605 (wrap64 (x4_1 + 1))) = some r := yh_ hy605 H
    have Ny605 := Aside0.mk hy605
    clear hy605
    have H' := Aside0.mk H
    clear H
    have p604 : 0 ≤ (x4_1 : Int) := of_decide_eq_true as_
    have q604 : x4_1 < (l0.length : Int) := of_decide_eq_true as_
    obtain ⟨ad604, e604, hx604_0⟩ := Kd.at_string HR0.out x4_1 p604 q604
    cases e604
    replace hx604_0 := (HB.out.cell (World.block_lt_of_cell? w _ hx604_0)).trans hx604_0
    replace p604 := eq_true p604
    replace q604 := eq_true q604
    have p9 : 0 ≤ (x4_1 : Int) := of_decide_eq_true as_
    have q9 : (x4_1 : Int) < ((x3_1.length : Int) : Int) := of_decide_eq_true as_
    obtain ⟨go9, co9, eo9, gb9, gl9, cl9, HG9⟩ := Kd.R_form HO_3.out (by omega)
    (first | cases eo9 | (injection eo9 with ea_ en_ ec_; (first | subst ea_ | (injection ea_ with ea_; subst ea_)); subst ec_; clear en_))
    have GB9 := Aside0.mk gb9
    have GG9 := Aside0.mk HG9
    clear gb9 gl9 HG9
    obtain ⟨hx9_0, hf9_0⟩ := Kd.R_celln (⟨#[]⟩ : ByteArray) HO_3.out (x4_1 : Int) p9 q9
    replace p9 := eq_true p9
    replace q9 := eq_true q9
    have HP10 := Kd.R_putg HO_3.out (x4_1 : Int) (rdOf ByteArray.empty l0 x4_1)
    go_wp2_with (first | ((with_reducible refine gate_store (t := 9) (p := 20) rfl ?_); refine store_event (t := 9) (p := 20) (v := ?vo_w11) (w1 := (wr.setCell ⟨go9, (x4_1 : Int).toNat, none⟩ (.string (rdOf ByteArray.empty l0 x4_1)))) ?hg ?ho ?hn ?hr ?_; (case ho => rfl); (case hg => rfl); (case hn => rfl); (case hr => first | (go_simp; done) | (go_simp; rfl)); intro w11 hw; have hg : wr.grownBy w11 (some go9) := (by rw [hw]; exact HP10.2); have hp_ : Kd.R Kd.string 9 w11 w.heap.size (fun _ => True) (.slice (some ⟨go9, 0, none⟩) x3_1.length co9) y605 := (by rw [hw, Ny605.out]; exact HP10.1); clear HP10; replace HO_3 := Aside0.mk hp_; replace HB := Aside0.mk ((by rw [hw]; exact below_set (HB.out) GB9.out : Below w.heap.size w w11)); clear hg hw hp_))
    go_roundg k1
    case measure => have := HK1.out; omega
    case rel => exact ⟨(y605), (wrap64 (x4_1 + 1)), e1_, H', ⟨by have := HK1.out; omega⟩, ⟨kr_ HO_3.out⟩, ⟨bw_ HB⟩⟩
   ·obtain rfl := Option.some.inj H
    go_wp2
    go_ret
    exact ⟨_, e2_, kr_ HO_3.out, bw_ HB⟩
end Go.Proofs.Ytjnnglphdaemaaa.Q
end

section
-- Written by a program of this session (wip/tools/pp.sh) over the print of the kit.
namespace Go.Proofs.Ytjnnglphdaemaaa.Q
open Go.RowKit Go.Proofs.YtjnnglphdaemaaaW.PrintWords Go.Proofs.YtjnnglphdaemaaaW.PrintLast Go.Proofs.YtjnnglphdaemaaaW.PrintMore
attribute [local go_sem] max2_int min2_int max_two min_two max_three min_three max_four min_four   -- for this text's walks alone
set_option linter.unusedVariables false
set_option linter.unusedSimpArgs false
def laws_eqStringS.l0 : Nat → List ByteArray → List ByteArray → Int → Option (Bool)
 | 0, _, _, _ => none
 | k + 1, x0, x1, x5 => if x5 < (x0.length : Int) then (if 0 ≤ x5 then (if x5 < (x1.length : Int) then (if (rdOf ByteArray.empty x0 x5).toList = (rdOf ByteArray.empty x1 x5).toList then (laws_eqStringS.l0 k x0 x1 (wrap64 (x5 + 1))) else (none)) else (none)) else (none)) else (some true)
def laws_eqStringS.f (k : Nat) (l0 : List ByteArray) (l1 : List ByteArray) : Option (Bool) := if (l0.length : Int) = (l1.length : Int) then (laws_eqStringS.l0 k l0 l1 0) else (none)
theorem laws_eqStringS.mono_l : ∀ k, (∀ y0 y1 y2, LeO (laws_eqStringS.l0 k y0 y1 y2) (laws_eqStringS.l0 (k + 1) y0 y1 y2))
 | 0 => fun _ _ _ r h => by simp [laws_eqStringS.l0] at h
 | k + 1 => by
  have ih0 := laws_eqStringS.mono_l k
  ·intro y0 y1 y2
   unfold laws_eqStringS.l0
   repeat' (with_reducible first | exact LeO.refl _ | exact LeO.none _ | apply ih0 | apply LeO.ite | refine LeO.bind ?_ fun _ => ?_)
theorem laws_eqStringS.mono : ∀ a0 a1 k, LeO (laws_eqStringS.f k a0 a1) (laws_eqStringS.f (k + 1) a0 a1) := by
 intro a0 a1 k
 have ih0 := laws_eqStringS.mono_l k
 unfold laws_eqStringS.f
 repeat' (with_reducible first | exact LeO.refl _ | exact LeO.none _ | apply ih0 | apply LeO.ite | refine LeO.bind ?_ fun _ => ?_)
set_option maxHeartbeats 8000000 in
set_option maxRecDepth 100000 in
theorem laws_eqStringS.calls (k : Nat) (A0 : Option Addr) (c0 : Nat) (l0 : List ByteArray) (A1 : Option Addr) (c1 : Nat) (l1 : List ByteArray) (r : Bool) (w : World) (hr0 : Kd.C Kd.string w A0 l0.length l0) (hc0 : l0.length ≤ c0) (hr1 : Kd.C Kd.string w A1 l1.length l1) (hc1 : l1.length ≤ c1) (h : laws_eqStringS.f k l0 l1 = some r) :
  Calls Try.prog 33 #[.slice A0 l0.length c0, .slice A1 l1.length c1] w fun e w' => e = .returned (.bool r) ∧ Drawn0 w w' := by
 have HR0 := Aside0.mk hr0
 have HC0 := Aside0.mk hc0
 clear hr0 hc0
 have HR1 := Aside0.mk hr1
 have HC1 := Aside0.mk hc1
 clear hr1 hc1
 have H : (if (l0.length : Int) = (l1.length : Int) then (laws_eqStringS.l0 k l0 l1 0) else (none)) = some r := h
 clear h
 replace H := ip_ H; obtain ⟨c3, H⟩ := H
 have c3b0 : ((l0.length : Int) == (l1.length : Int)) = true := beq_iff_eq.mpr c3
 have c3b1 : ((l0.length : Int) != (l1.length : Int)) = false := bne_eq_false_iff_eq.mpr c3
 have c3b2 : (l0.length == l1.length) = true := by first | simpa using c3 | (simp at c3 ⊢; omega)
 clear c3
 have H' := Aside0.mk H
 clear H
 go_enter Try.func33, Try.ntmps33
 go_wp2
 repeat (go_quiet (fail); try go_wp2)
 go_loopg [5] k (fun kq v5 w' => ∃ (x5_1 : Int), v5 = .int .i64 x5_1 ∧ Aside0 (laws_eqStringS.l0 kq l0 l1 x5_1 = some r) ∧ Aside0 (kq ≤ k) ∧ Drawn0 w w')
 case atStart => exact ⟨(0), e1_, H', ⟨Nat.le_refl _⟩, dw_⟩
 case round =>
  clear H'
  try clear c3
  try clear c3b0
  try clear c3b1
  try clear c3b2
  obtain ⟨x5_1, rfl, HA, HK1, ⟨m1, rfl⟩⟩ := hrel
  cases gk with
  | zero => exact absurd HA.out (by simp [laws_eqStringS.l0])
  | succ k1 =>
   have H := HA.out
   clear HA
   simp only [laws_eqStringS.l0] at H
   replace H := itd_ H; obtain ⟨c4b0, H⟩ | ⟨c4b0, H⟩ := H
   ·replace H := ipd_ H; obtain ⟨c5b0, H⟩ := H
    replace H := ipd_ H; obtain ⟨c6b0, H⟩ := H
    replace H := ip_ H; obtain ⟨c7, H⟩ := H
    have c7b0 : ((rdOf ByteArray.empty l0 x5_1).toList == (rdOf ByteArray.empty l1 x5_1).toList) = true := beq_iff_eq.mpr c7
    have c7b1 : ((rdOf ByteArray.empty l0 x5_1).toList != (rdOf ByteArray.empty l1 x5_1).toList) = false := bne_eq_false_iff_eq.mpr c7
    clear c7
    have H' := Aside0.mk H
    clear H
    have p601 : 0 ≤ (x5_1 : Int) := of_decide_eq_true as_
    have q601 : x5_1 < (l0.length : Int) := of_decide_eq_true as_
    obtain ⟨ad601, e601, hx601_0⟩ := Kd.at_string HR0.out x5_1 p601 q601
    cases e601
    replace p601 := eq_true p601
    replace q601 := eq_true q601
    have p602 : 0 ≤ (x5_1 : Int) := of_decide_eq_true as_
    have q602 : x5_1 < (l1.length : Int) := of_decide_eq_true as_
    obtain ⟨ad602, e602, hx602_0⟩ := Kd.at_string HR1.out x5_1 p602 q602
    cases e602
    replace p602 := eq_true p602
    replace q602 := eq_true q602
    go_wp2
    repeat (go_quiet (fail); try go_wp2)
    go_roundg k1
    case measure => have := HK1.out; omega
    case rel => exact ⟨(wrap64 (x5_1 + 1)), e1_, H', ⟨by have := HK1.out; omega⟩, dw_⟩
   ·obtain rfl := Option.some.inj H
    go_wp2
    repeat (go_quiet (fail); try go_wp2)
    go_ret
    exact ⟨e1_, dw_⟩
end Go.Proofs.Ytjnnglphdaemaaa.Q
end

section
/- What the laws' own helpers do with lists of texts: the copy has the same texts; a list equals itself; its weight. -/
namespace Go.Proofs.Ytjnnglphdaemaaa.Q
open Go.RowKit Go.Proofs.Ytjnnglphdaemaaa.B Go.Proofs.YtjnnglphdaemaaaW.PrintWords

theorem rdS {l : List ByteArray} {i : Nat} {x : ByteArray} (h : l[i]? = some x) : rdOf ByteArray.empty l (i : Int) = x := rdOf_at h
theorem nextS {i n : Nat} (h : i < n) (hn : n ≤ 9223372036854775807) : wrap64 ((i : Int) + 1) = ((i + 1 : Nat) : Int) := by
  rw [w64 (by omega) (by omega)]
  omega

theorem szStringS_ev (l : List ByteArray) (left : Int) (h0 : 0 ≤ left) (h1 : left ≤ 1048576) (hl : l.length ≤ 9223372036854775807) (hg : ∀ x ∈ l, x.size ≤ 9223372036854775807) :
    ∃ r, Ev (fun k => laws_szStringS.f k l left) r ∧ (r < 0 ∨ 0 ≤ r ∧ r + l.length + total l = left) := by
  have main : ∀ (d i : Nat) (q : Int), i + d = l.length → 0 ≤ q → q ≤ 1048576 → ∃ r, Ev (fun k => laws_szStringS.l0 k l q (i : Int)) r ∧ (r < 0 ∨ 0 ≤ r ∧ r + total (l.drop i) = q) := by
    intro d
    induction d with
    | zero =>
      intro i q hi hq hq1
      refine ⟨q, Ev.step (f := fun _ => some q) (fun k => ?_) (Ev.now q), .inr ⟨hq, ?_⟩⟩
      · simp only [laws_szStringS.l0]
        rw [if_neg (by omega)]
      · rw [List.drop_of_length_le (by omega)]
        simp [total]
    | succ d ih =>
      intro i q hi hq hq1
      obtain ⟨x, hx⟩ := get_some (l := l) (i := i) (by omega)
      have hs := hg x (List.mem_of_getElem? hx)
      have hw : wrap64 (q - (x.size : Int)) = q - (x.size : Int) := w64 (by omega) (by omega)
      by_cases hc : q - (x.size : Int) < 0
      · refine ⟨-1, Ev.step (f := fun _ => some (-1)) (fun k => ?_) (Ev.now _), .inl (by omega)⟩
        simp only [laws_szStringS.l0]
        rw [if_pos (by omega), if_pos (by omega), rdS hx, hw, if_pos hc]
      · obtain ⟨r2, h2, h3⟩ := ih (i + 1) (q - x.size) (by omega) (by omega) (by omega)
        refine ⟨r2, Ev.step (fun k => ?_) h2, ?_⟩
        · simp only [laws_szStringS.l0]
          rw [if_pos (by omega), if_pos (by omega), rdS hx, hw, if_neg hc, nextS (show i < l.length by omega) hl]
        · rw [drop_one hx, total_cons]
          omega
  have hw : wrap64 (left - (l.length : Int)) = left - (l.length : Int) := w64 (by omega) (by omega)
  by_cases h : left - (l.length : Int) < 0
  · refine ⟨-1, Ev.congr (fun k => ?_) (Ev.now (-1)), .inl (by omega)⟩
    unfold laws_szStringS.f
    rw [hw, if_pos h]
  · obtain ⟨r, h2, h3⟩ := main l.length 0 (left - l.length) (by omega) (by omega) (by omega)
    refine ⟨r, Ev.congr (fun k => ?_) h2, ?_⟩
    · unfold laws_szStringS.f
      rw [hw, if_neg h]
      rfl
    · rw [List.drop_zero] at h3
      omega

theorem toStringS_ev (l : List ByteArray) (hl : l.length ≤ 1048576) : Ev (fun k => laws_toStringS.f k l) l := by
  have main : ∀ (d i : Nat) (acc : List ByteArray), i + d = l.length → acc.length = l.length → acc.take i = l.take i → Ev (fun k => laws_toStringS.l0 k l acc (i : Int)) l := by
    intro d
    induction d with
    | zero =>
      intro i acc hi ha ht
      refine Ev.step (f := fun _ => some l) (fun k => ?_) (Ev.now _)
      simp only [laws_toStringS.l0]
      rw [if_neg (by omega)]
      rw [List.take_of_length_le (by omega), List.take_of_length_le (by omega)] at ht
      rw [ht]
    | succ d ih =>
      intro i acc hi ha ht
      obtain ⟨x, hx⟩ := get_some (l := l) (i := i) (by omega)
      refine Ev.step (fun k => ?_) (ih (i + 1) (acc.set i x) (by omega) (by simp [ha]) ?_)
      · simp only [laws_toStringS.l0]
        rw [if_pos (by omega), if_pos (by omega), if_pos (by omega), rdS hx, nextS (show i < l.length by omega) (by omega)]
        rfl
      · rw [set_take _ (by omega), ht, take_one hx]
  refine Ev.congr (fun k => ?_) (main l.length 0 (List.replicate l.length (⟨#[]⟩ : ByteArray)) (by omega) (by simp) (by simp))
  unfold laws_toStringS.f
  rw [if_pos (by omega), if_pos (by simp; omega)]
  rfl

theorem eqStringS_ev (l : List ByteArray) (hl : l.length ≤ 9223372036854775807) : Ev (fun k => laws_eqStringS.f k l l) true := by
  have main : ∀ (d i : Nat), i + d = l.length → Ev (fun k => laws_eqStringS.l0 k l l (i : Int)) true := by
    intro d
    induction d with
    | zero =>
      intro i hi
      refine Ev.step (f := fun _ => some true) (fun k => ?_) (Ev.now _)
      simp only [laws_eqStringS.l0]
      rw [if_neg (by omega)]
    | succ d ih =>
      intro i hi
      refine Ev.step (fun k => ?_) (ih (i + 1) (by omega))
      simp only [laws_eqStringS.l0]
      rw [if_pos (by omega), if_pos (by omega), if_pos (by omega), if_pos trivial, nextS (show i < l.length by omega) hl]
  refine Ev.congr (fun k => ?_) (main l.length 0 (by omega))
  unfold laws_eqStringS.f
  rw [if_pos rfl]
  rfl
end Go.Proofs.Ytjnnglphdaemaaa.Q
end

section
-- Written by a program of this session (wip/tools/pp.sh) over the print of the kit.
namespace Go.Proofs.Ytjnnglphdaemaaa.Q
open Go.RowKit Go.Proofs.YtjnnglphdaemaaaW.PrintWords Go.Proofs.YtjnnglphdaemaaaW.PrintLast Go.Proofs.YtjnnglphdaemaaaW.PrintMore
attribute [local go_sem] max2_int min2_int max_two min_two max_three min_three max_four min_four   -- for this text's walks alone
set_option linter.unusedVariables false
set_option linter.unusedSimpArgs false
def laws_szLog.f (k : Nat) (l0_0 : List ByteArray) (a0_1 : Int) (a0_2 : ByteArray) (a1 : Int) : Option (Int) := (laws_szStringS.f k l0_0 a1).bind fun t602 => (if t602 < 0 then (some (-1)) else ((laws_szHead.f a0_1 a0_2 t602).bind fun t603 => (if t603 < 0 then (some (-1)) else (some t603))))
theorem laws_szLog.mono : ∀ a0 a1 a2 a3 k, LeO (laws_szLog.f k a0 a1 a2 a3) (laws_szLog.f (k + 1) a0 a1 a2 a3) := by
 intro a0 a1 a2 a3 k
 unfold laws_szLog.f
 repeat' (with_reducible first | exact LeO.refl _ | exact LeO.none _ | apply laws_szStringS.mono | apply LeO.ite | refine LeO.bind ?_ fun _ => ?_)
set_option maxHeartbeats 8000000 in
set_option maxRecDepth 100000 in
theorem laws_szLog.calls (k : Nat) (A0_0 : Option Addr) (c0_0 : Nat) (l0_0 : List ByteArray) (a0_1 : Int) (a0_2 : ByteArray) (a1 : Int) (r : Int) (w : World) (hr0_0 : Kd.C Kd.string w A0_0 l0_0.length l0_0) (hc0_0 : l0_0.length ≤ c0_0) (h : laws_szLog.f k l0_0 a0_1 a0_2 a1 = some r) :
  Calls Try.prog 23 #[.agg #[.slice A0_0 l0_0.length c0_0, .int .i64 a0_1, .string a0_2], .int .i64 a1] w fun e w' => e = .returned (.int .i64 r) ∧ Below w.heap.size w w' := by
 have hu49 := Try.underlying49
 have hu47 := Try.underlying47
 have HR0_0 := Aside0.mk hr0_0
 have HC0_0 := Aside0.mk hc0_0
 clear hr0_0 hc0_0
 have HB := Aside0.mk (Below.refl w.heap.size w)
 have H : ((laws_szStringS.f k l0_0 a1).bind fun t602 => (if t602 < 0 then (some (-1)) else ((laws_szHead.f a0_1 a0_2 t602).bind fun t603 => (if t603 < 0 then (some (-1)) else (some t603))))) = some r := h
 clear h
 replace H := bi_ H; obtain ⟨t602, A3, H⟩ := H
 replace H := itd_ H; obtain ⟨c4b0, H⟩ | ⟨c4b0, H⟩ := H
 ·obtain rfl := Option.some.inj H
  go_enter Try.func23, Try.ntmps23
  go_wp2_with (first | ((with_reducible refine gd_ 2 ?_); refine bx_ 2 49 #[.slice A0_0 l0_0.length c0_0, .int .i64 a0_1, .string a0_2] ?_; intro gb601 hg w5 hbox hb; have BK601 := Aside0.mk hbox; have GW601 := gg_ hg HB; have GE601 := GW601; replace HB := ss_ HB hb; clear hb hbox hg; have hz6 := cz3_ BK601) | ((with_reducible refine gq_ 26 8 ?_); refine gc_ 8 Try.func26 (laws_szStringS.calls k _ _ l0_0 a1 t602 _ (cb_ HR0_0 HB) HC0_0.out A3.out) ?_; rintro e w' ⟨rfl, ⟨nd, rfl⟩⟩; refine ⟨_, rfl, ?_⟩))
  go_ret
  exact ⟨e2_, bw_ HB⟩
 ·replace H := bi_ H; obtain ⟨t603, A7, H⟩ := H
  replace H := itd_ H; obtain ⟨c8b0, H⟩ | ⟨c8b0, H⟩ := H
  ·obtain rfl := Option.some.inj H
   go_enter Try.func23, Try.ntmps23
   go_wp2_with (first | ((with_reducible refine gd_ 2 ?_); refine bx_ 2 49 #[.slice A0_0 l0_0.length c0_0, .int .i64 a0_1, .string a0_2] ?_; intro gb601 hg w9 hbox hb; have BK601 := Aside0.mk hbox; have GW601 := gg_ hg HB; have GE601 := GW601; replace HB := ss_ HB hb; clear hb hbox hg; have hz10 := cz3_ BK601) | ((with_reducible refine gq_ 26 8 ?_); refine gc_ 8 Try.func26 (laws_szStringS.calls k _ _ l0_0 a1 t602 _ (cb_ HR0_0 HB) HC0_0.out A3.out) ?_; rintro e w' ⟨rfl, ⟨nd, rfl⟩⟩; refine ⟨_, rfl, ?_⟩) | ((with_reducible refine gq_ 25 14 ?_); refine gc_ 14 Try.func25 (laws_szHead.calls a0_1 a0_2 t602 t603 _ A7.out) ?_; rintro e w11 ⟨rfl, hb⟩; refine ⟨_, rfl, ?_⟩; replace BK601 := kl_ BK601 hb; replace HB := ss_ HB hb; clear hb))
   go_ret
   exact ⟨e2_, bw_ HB⟩
  ·obtain rfl := Option.some.inj H
   go_enter Try.func23, Try.ntmps23
   go_wp2_with (first | ((with_reducible refine gd_ 2 ?_); refine bx_ 2 49 #[.slice A0_0 l0_0.length c0_0, .int .i64 a0_1, .string a0_2] ?_; intro gb601 hg w12 hbox hb; have BK601 := Aside0.mk hbox; have GW601 := gg_ hg HB; have GE601 := GW601; replace HB := ss_ HB hb; clear hb hbox hg; have hz13 := cz3_ BK601) | ((with_reducible refine gq_ 26 8 ?_); refine gc_ 8 Try.func26 (laws_szStringS.calls k _ _ l0_0 a1 t602 _ (cb_ HR0_0 HB) HC0_0.out A3.out) ?_; rintro e w' ⟨rfl, ⟨nd, rfl⟩⟩; refine ⟨_, rfl, ?_⟩) | ((with_reducible refine gq_ 25 14 ?_); refine gc_ 14 Try.func25 (laws_szHead.calls a0_1 a0_2 t602 t603 _ A7.out) ?_; rintro e w14 ⟨rfl, hb⟩; refine ⟨_, rfl, ?_⟩; replace BK601 := kl_ BK601 hb; replace HB := ss_ HB hb; clear hb))
   go_ret
   exact ⟨e2_, bw_ HB⟩
end Go.Proofs.Ytjnnglphdaemaaa.Q
end

section
-- Written by a program of this session (wip/tools/pp.sh) over the print of the kit.
namespace Go.Proofs.Ytjnnglphdaemaaa.Q
open Go.RowKit Go.Proofs.YtjnnglphdaemaaaW.PrintWords Go.Proofs.YtjnnglphdaemaaaW.PrintLast Go.Proofs.YtjnnglphdaemaaaW.PrintMore
attribute [local go_sem] max2_int min2_int max_two min_two max_three min_three max_four min_four   -- for this text's walks alone
set_option linter.unusedVariables false
set_option linter.unusedSimpArgs false
def laws_toLog.f (k : Nat) (l0_0 : List ByteArray) (a0_1 : Int) (a0_2 : ByteArray) : Option (List ByteArray × Int × ByteArray) := (laws_toStringS.f k l0_0).bind fun t604 => ((laws_toHead.f a0_1 a0_2).bind fun bt607 => (some (t604, bt607.1, bt607.2)))
theorem laws_toLog.mono : ∀ a0 a1 a2 k, LeO (laws_toLog.f k a0 a1 a2) (laws_toLog.f (k + 1) a0 a1 a2) := by
 intro a0 a1 a2 k
 unfold laws_toLog.f
 repeat' (with_reducible first | exact LeO.refl _ | exact LeO.none _ | apply laws_toStringS.mono | apply LeO.ite | refine LeO.bind ?_ fun _ => ?_)
set_option maxHeartbeats 8000000 in
set_option maxRecDepth 100000 in
theorem laws_toLog.calls (k : Nat) (A0_0 : Option Addr) (c0_0 : Nat) (l0_0 : List ByteArray) (a0_1 : Int) (a0_2 : ByteArray) (r1 : List ByteArray) (r2 : Int) (r3 : ByteArray) (w : World) (hr0_0 : Kd.C Kd.string w A0_0 l0_0.length l0_0) (hc0_0 : l0_0.length ≤ c0_0) (h : laws_toLog.f k l0_0 a0_1 a0_2 = some (r1, r2, r3)) :
  Calls Try.prog 27 #[.agg #[.slice A0_0 l0_0.length c0_0, .int .i64 a0_1, .string a0_2]] w fun e w' => ∃ v0_ : Value, e = .returned (.agg #[v0_, .int .i64 r2, .string r3]) ∧ Kd.R Kd.string 9 w' w.heap.size (fun _ => True) v0_ r1 ∧ Below w.heap.size w w' := by
 have hu49 := Try.underlying49
 have hu31 := Try.underlying31
 have hu47 := Try.underlying47
 have hu28 := Try.underlying28
 have HR0_0 := Aside0.mk hr0_0
 have HC0_0 := Aside0.mk hc0_0
 clear hr0_0 hc0_0
 have HB := Aside0.mk (Below.refl w.heap.size w)
 have H : ((laws_toStringS.f k l0_0).bind fun t604 => ((laws_toHead.f a0_1 a0_2).bind fun bt607 => (some (t604, bt607.1, bt607.2)))) = some (r1, r2, r3) := h
 clear h
 replace H := bi_ H; obtain ⟨t604, A2, H⟩ := H
 replace H := bi_ H; obtain ⟨⟨t607, t608⟩, A3, H⟩ := H
 dsimp only at H
 replace H := so3_ H; obtain ⟨rfl, rfl, rfl⟩ := H
 go_enter Try.func27, Try.ntmps27
 go_wp2_with (first | ((with_reducible refine gd_ 1 ?_); refine bx_ 1 49 #[.slice A0_0 l0_0.length c0_0, .int .i64 a0_1, .string a0_2] ?_; intro gb601 hg w4 hbox hb; have BK601 := Aside0.mk hbox; have GW601 := gg_ hg HB; have GE601 := GW601; replace HB := ss_ HB hb; clear hb hbox hg) | ((with_reducible refine gd_ 2 ?_); refine bx_ 2 31 #[.slice none 0 0, .int .i64 0, .string (⟨#[]⟩ : ByteArray)] ?_; intro gb602 hg w5 hbox hb; have BK602 := Aside0.mk hbox; have GW602 := gg_ hg HB; have GE602 := GW602; replace HB := ss_ HB hb; have NB601_602 := nla_ hg BK601; have NB602_601 := nga_ hg BK601; replace BK601 := kl_ BK601 hb; clear hb hbox hg) | ((with_reducible refine gd_ 3 ?_); refine bx_ 3 31 #[.slice none 0 0, .int .i64 0, .string (⟨#[]⟩ : ByteArray)] ?_; intro gb603 hg w6 hbox hb; have BK603 := Aside0.mk hbox; have GW603 := gg_ hg HB; have GE603 := GW603; replace HB := ss_ HB hb; have NB601_603 := nla_ hg BK601; have NB603_601 := nga_ hg BK601; replace BK601 := kl_ BK601 hb; have NB602_603 := Aside0.mk ((by rw [hg]; exact Nat.ne_of_lt (blk_lt (kb_ BK602.out)) : gb602 ≠ gb603)); have NB603_602 := Aside0.mk ((by rw [hg]; exact Nat.ne_of_gt (blk_lt (kb_ BK602.out)) : gb603 ≠ gb602)); replace BK602 := kl_ BK602 hb; clear hb hbox hg; have hnb7 := NB601_602.out; have hnc7 := NB602_601.out; have hnb8 := NB601_603.out; have hnc8 := NB603_601.out; have hz9 := cz3_ BK601) | ((with_reducible refine gq_ 30 6 ?_); refine gc_ 6 Try.func30 (laws_toStringS.calls k _ _ l0_0 t604 _ (cb_ HR0_0 HB) HC0_0.out A2.out) ?_; rintro e w10 ⟨v605, rfl, ho0, hb⟩; refine ⟨_, rfl, ?_⟩; have HO606 := Aside0.mk (Kd.R_lower ho0 (sz_ HB)); replace BK601 := kl_ BK601 hb; replace BK602 := kl_ BK602 hb; replace BK603 := kl_ BK603 hb; replace HB := ss_ HB hb; clear hb ho0; obtain ⟨Ao11, co11, eo11⟩ := Kd.R_slice HO606.out; subst eo11; have hnb12 := NB603_602.out; have hnc12 := NB602_603.out; have hz13 := cz3_ BK603; have hz14 := cz3_ BK601) | ((with_reducible refine gq_ 29 10 ?_); refine gc_ 10 Try.func29 (laws_toHead.calls a0_1 a0_2 t607 t608 _ A3.out) ?_; rintro e w15 ⟨rfl, hb⟩; refine ⟨_, rfl, ?_⟩; replace HO606 := rbf_ HO606 BK603 hb; replace BK601 := kp_ BK601 hb; replace BK602 := kp_ BK602 hb; replace BK603 := kp_ BK603 hb; replace HB := ss_ HB hb; clear hb; have hz16 := cz3_ BK603; have hz17 := cz3_ BK602))
 refine bodyPost_ret (results_cell_row rfl _ _ gb602 31 #[.slice Ao11 t604.length co11, .int .i64 t607, .string t608] (0, 0) _ rfl (by exact kq_ BK602) Try.underlying31 rfl (by kernel_rfl)) rfl ?_
 exact ⟨_, e2_, by (with_reducible repeat (first | apply Kd.R_alloc | apply Kd.R_drewN | apply Kd.R_drew)); exact Kd.R_mono (Kd.R_far (p := ⟨gb602, 2, none⟩) (Kd.R_far (p := ⟨gb602, 1, none⟩) (Kd.R_far (p := ⟨gb602, 0, none⟩) (Kd.R_far (p := ⟨gb603, 2, none⟩) (Kd.R_far (p := ⟨gb603, 1, none⟩) (Kd.R_types (Kd.R_types HO606.out BK603.out (by decide)) BK602.out (by decide)) (fun _ hk => hk.1.2) (.int .i64 t607)) (fun _ hk => hk.1.2) (.string t608)) (fun _ hk => hk.2) (.slice Ao11 t604.length co11)) (fun _ hk => hk.2) (.int .i64 t607)) (fun _ hk => hk.2) (.string t608)) (fun _ hk => trivial), bw_ HB⟩
end Go.Proofs.Ytjnnglphdaemaaa.Q
end

section
-- Written by a program of this session (wip/tools/pp.sh) over the print of the kit.
namespace Go.Proofs.Ytjnnglphdaemaaa.Q
open Go.RowKit Go.Proofs.YtjnnglphdaemaaaW.PrintWords Go.Proofs.YtjnnglphdaemaaaW.PrintLast Go.Proofs.YtjnnglphdaemaaaW.PrintMore
attribute [local go_sem] max2_int min2_int max_two min_two max_three min_three max_four min_four   -- for this text's walks alone
set_option linter.unusedVariables false
set_option linter.unusedSimpArgs false
def laws_eqLog.f (k : Nat) (l0_0 : List ByteArray) (a0_1 : Int) (a0_2 : ByteArray) (l1_0 : List ByteArray) (a1_1 : Int) (a1_2 : ByteArray) : Option (Bool) := (laws_eqStringS.f k l0_0 l1_0).bind fun t603 => (if t603 = true then ((laws_eqHead.f a0_1 a0_2 a1_1 a1_2).bind fun t604 => (if t604 = true then (some true) else (none))) else (none))
theorem laws_eqLog.mono : ∀ a0 a1 a2 a3 a4 a5 k, LeO (laws_eqLog.f k a0 a1 a2 a3 a4 a5) (laws_eqLog.f (k + 1) a0 a1 a2 a3 a4 a5) := by
 intro a0 a1 a2 a3 a4 a5 k
 unfold laws_eqLog.f
 repeat' (with_reducible first | exact LeO.refl _ | exact LeO.none _ | apply laws_eqStringS.mono | apply LeO.ite | refine LeO.bind ?_ fun _ => ?_)
set_option maxHeartbeats 8000000 in
set_option maxRecDepth 100000 in
theorem laws_eqLog.calls (k : Nat) (A0_0 : Option Addr) (c0_0 : Nat) (l0_0 : List ByteArray) (a0_1 : Int) (a0_2 : ByteArray) (A1_0 : Option Addr) (c1_0 : Nat) (l1_0 : List ByteArray) (a1_1 : Int) (a1_2 : ByteArray) (r : Bool) (w : World) (hr0_0 : Kd.C Kd.string w A0_0 l0_0.length l0_0) (hc0_0 : l0_0.length ≤ c0_0) (hr1_0 : Kd.C Kd.string w A1_0 l1_0.length l1_0) (hc1_0 : l1_0.length ≤ c1_0) (h : laws_eqLog.f k l0_0 a0_1 a0_2 l1_0 a1_1 a1_2 = some r) :
  Calls Try.prog 31 #[.agg #[.slice A0_0 l0_0.length c0_0, .int .i64 a0_1, .string a0_2], .agg #[.slice A1_0 l1_0.length c1_0, .int .i64 a1_1, .string a1_2]] w fun e w' => e = .returned (.bool r) ∧ Below w.heap.size w w' := by
 have hu31 := Try.underlying31
 have hu28 := Try.underlying28
 have HR0_0 := Aside0.mk hr0_0
 have HC0_0 := Aside0.mk hc0_0
 clear hr0_0 hc0_0
 have HR1_0 := Aside0.mk hr1_0
 have HC1_0 := Aside0.mk hc1_0
 clear hr1_0 hc1_0
 have HB := Aside0.mk (Below.refl w.heap.size w)
 have H : ((laws_eqStringS.f k l0_0 l1_0).bind fun t603 => (if t603 = true then ((laws_eqHead.f a0_1 a0_2 a1_1 a1_2).bind fun t604 => (if t604 = true then (some true) else (none))) else (none))) = some r := h
 clear h
 replace H := bi_ H; obtain ⟨t603, A3, H⟩ := H
 replace H := ipb_ H; obtain ⟨rfl, H⟩ := H
 replace H := bi_ H; obtain ⟨t604, A5, H⟩ := H
 replace H := ipb_ H; obtain ⟨rfl, H⟩ := H
 obtain rfl := Option.some.inj H
 go_enter Try.func31, Try.ntmps31
 go_wp2_with (first | ((with_reducible refine gd_ 2 ?_); refine bx_ 2 31 #[.slice A0_0 l0_0.length c0_0, .int .i64 a0_1, .string a0_2] ?_; intro gb601 hg w7 hbox hb; have BK601 := Aside0.mk hbox; have GW601 := gg_ hg HB; have GE601 := GW601; replace HB := ss_ HB hb; clear hb hbox hg) | ((with_reducible refine gd_ 3 ?_); refine bx_ 3 31 #[.slice A1_0 l1_0.length c1_0, .int .i64 a1_1, .string a1_2] ?_; intro gb602 hg w8 hbox hb; have BK602 := Aside0.mk hbox; have GW602 := gg_ hg HB; have GE602 := GW602; replace HB := ss_ HB hb; have NB601_602 := nla_ hg BK601; have NB602_601 := nga_ hg BK601; replace BK601 := kl_ BK601 hb; clear hb hbox hg; have hnb9 := NB601_602.out; have hnc9 := NB602_601.out; have hz10 := cz3_ BK601; have hz11 := cz3_ BK602) | ((with_reducible refine gq_ 33 9 ?_); refine gc_ 9 Try.func33 (laws_eqStringS.calls k _ _ l0_0 _ _ l1_0 true _ (cb_ HR0_0 HB) HC0_0.out (cb_ HR1_0 HB) HC1_0.out A3.out) ?_; rintro e w' ⟨rfl, ⟨nd, rfl⟩⟩; refine ⟨_, rfl, ?_⟩) | ((with_reducible refine gq_ 81 15 ?_); refine gc_ 15 Try.func81 (laws_eqHead.calls a0_1 a0_2 a1_1 a1_2 true _ A5.out) ?_; rintro e w12 ⟨rfl, hb⟩; refine ⟨_, rfl, ?_⟩; replace BK601 := kl_ BK601 hb; replace BK602 := kl_ BK602 hb; replace HB := ss_ HB hb; clear hb))
 go_ret
 exact ⟨e2_, bw_ HB⟩
end Go.Proofs.Ytjnnglphdaemaaa.Q
end

section
/- What the laws' own helpers do with logs: the weight, the copy, a log equals itself. -/
namespace Go.Proofs.Ytjnnglphdaemaaa.Q
open Go.RowKit Go.Proofs.Ytjnnglphdaemaaa.B Go.Proofs.YtjnnglphdaemaaaW.PrintWords
set_option linter.unusedVariables false

theorem szLog_ev (l : List ByteArray) (n : Int) (s : ByteArray) (left : Int) (h0 : 0 ≤ left) (h1 : left ≤ 1048576) (hl : l.length ≤ 9223372036854775807) (hg : ∀ x ∈ l, x.size ≤ 9223372036854775807) (hs : s.size ≤ 9223372036854775807) :
    ∃ r, Ev (fun k => laws_szLog.f k l n s left) r ∧ (r < 0 ∨ 0 ≤ r ∧ r + l.length + total l + s.size = left) := by
  obtain ⟨a, ha, hc⟩ := szStringS_ev l left h0 h1 hl hg
  unfold laws_szLog.f
  rcases hc with hc | ⟨hc, hc1⟩
  · exact ⟨-1, Ev.bind ha (Ev.pos hc (Ev.now _)), .inl (by omega)⟩
  · have ht := total_nonneg l
    obtain ⟨b, hb, hd⟩ := szHead_eq n s a hc (by omega) hs
    rcases hd with hd | ⟨hd, hd1⟩
    · exact ⟨-1, Ev.bind ha (Ev.neg (by omega) (Ev.bind (Ev.const hb) (Ev.pos hd (Ev.now _)))), .inl (by omega)⟩
    · exact ⟨b, Ev.bind ha (Ev.neg (by omega) (Ev.bind (Ev.const hb) (Ev.neg (by omega) (Ev.now _)))), .inr ⟨hd, by omega⟩⟩
theorem toLog_ev (l : List ByteArray) (n : Int) (s : ByteArray) (hl : l.length ≤ 1048576) : Ev (fun k => laws_toLog.f k l n s) (l, n, s) := by
  unfold laws_toLog.f
  refine Ev.bind (toStringS_ev l hl) ?_
  simp only [toHead_eq, Option.bind_some]
  exact Ev.now _
theorem eqLog_ev (l : List ByteArray) (n : Int) (s : ByteArray) (hl : l.length ≤ 9223372036854775807) : Ev (fun k => laws_eqLog.f k l n s l n s) true := by
  unfold laws_eqLog.f
  refine Ev.bind (eqStringS_ev l hl) (Ev.pos rfl ?_)
  refine Ev.bind (Ev.const (eqHead_eq n s)) ?_
  exact Ev.pos rfl (Ev.now _)
end Go.Proofs.Ytjnnglphdaemaaa.Q
end

section
-- Written by a program of this session (wip/tools/pp.sh) over the print of the kit.
namespace Go.Proofs.Ytjnnglphdaemaaa.Q
open Go.RowKit Go.Proofs.YtjnnglphdaemaaaW.PrintWords Go.Proofs.YtjnnglphdaemaaaW.PrintLast Go.Proofs.YtjnnglphdaemaaaW.PrintMore
attribute [local go_sem] max2_int min2_int max_two min_two max_three min_three max_four min_four   -- for this text's walks alone
set_option linter.unusedVariables false
set_option linter.unusedSimpArgs false
def laws_eqByteS.l0 : Nat → List Int → List Int → Int → Option (Bool)
 | 0, _, _, _ => none
 | k + 1, x0, x1, x5 => if x5 < (x0.length : Int) then (if 0 ≤ x5 then (if x5 < (x1.length : Int) then (if (rd x0 x5) = (rd x1 x5) then (laws_eqByteS.l0 k x0 x1 (wrap64 (x5 + 1))) else (none)) else (none)) else (none)) else (some true)
def laws_eqByteS.f (k : Nat) (l0 : List Int) (l1 : List Int) : Option (Bool) := if (l0.length : Int) = (l1.length : Int) then (laws_eqByteS.l0 k l0 l1 0) else (none)
theorem laws_eqByteS.mono_l : ∀ k, (∀ y0 y1 y2, LeO (laws_eqByteS.l0 k y0 y1 y2) (laws_eqByteS.l0 (k + 1) y0 y1 y2))
 | 0 => fun _ _ _ r h => by simp [laws_eqByteS.l0] at h
 | k + 1 => by
  have ih0 := laws_eqByteS.mono_l k
  ·intro y0 y1 y2
   unfold laws_eqByteS.l0
   repeat' (with_reducible first | exact LeO.refl _ | exact LeO.none _ | apply ih0 | apply LeO.ite | refine LeO.bind ?_ fun _ => ?_)
theorem laws_eqByteS.mono : ∀ a0 a1 k, LeO (laws_eqByteS.f k a0 a1) (laws_eqByteS.f (k + 1) a0 a1) := by
 intro a0 a1 k
 have ih0 := laws_eqByteS.mono_l k
 unfold laws_eqByteS.f
 repeat' (with_reducible first | exact LeO.refl _ | exact LeO.none _ | apply ih0 | apply LeO.ite | refine LeO.bind ?_ fun _ => ?_)
set_option maxHeartbeats 8000000 in
set_option maxRecDepth 100000 in
theorem laws_eqByteS.calls (k : Nat) (A0 : Option Addr) (c0 : Nat) (l0 : List Int) (A1 : Option Addr) (c1 : Nat) (l1 : List Int) (r : Bool) (w : World) (hr0 : Kd.C (Kd.int .u8) w A0 l0.length l0) (hc0 : l0.length ≤ c0) (hr1 : Kd.C (Kd.int .u8) w A1 l1.length l1) (hc1 : l1.length ≤ c1) (h : laws_eqByteS.f k l0 l1 = some r) :
  Calls Try.prog 57 #[.slice A0 l0.length c0, .slice A1 l1.length c1] w fun e w' => e = .returned (.bool r) ∧ Drawn0 w w' := by
 have HR0 := Aside0.mk hr0
 have HC0 := Aside0.mk hc0
 clear hr0 hc0
 have HR1 := Aside0.mk hr1
 have HC1 := Aside0.mk hc1
 clear hr1 hc1
 have H : (if (l0.length : Int) = (l1.length : Int) then (laws_eqByteS.l0 k l0 l1 0) else (none)) = some r := h
 clear h
 replace H := ip_ H; obtain ⟨c3, H⟩ := H
 have c3b0 : ((l0.length : Int) == (l1.length : Int)) = true := beq_iff_eq.mpr c3
 have c3b1 : ((l0.length : Int) != (l1.length : Int)) = false := bne_eq_false_iff_eq.mpr c3
 have c3b2 : (l0.length == l1.length) = true := by first | simpa using c3 | (simp at c3 ⊢; omega)
 clear c3
 have H' := Aside0.mk H
 clear H
 go_enter Try.func57, Try.ntmps57
 go_wp2
 repeat (go_quiet (fail); try go_wp2)
 go_loopg [5] k (fun kq v5 w' => ∃ (x5_1 : Int), v5 = .int .i64 x5_1 ∧ Aside0 (laws_eqByteS.l0 kq l0 l1 x5_1 = some r) ∧ Aside0 (kq ≤ k) ∧ Drawn0 w w')
 case atStart => exact ⟨(0), e1_, H', ⟨Nat.le_refl _⟩, dw_⟩
 case round =>
  clear H'
  try clear c3
  try clear c3b0
  try clear c3b1
  try clear c3b2
  obtain ⟨x5_1, rfl, HA, HK1, ⟨m1, rfl⟩⟩ := hrel
  cases gk with
  | zero => exact absurd HA.out (by simp [laws_eqByteS.l0])
  | succ k1 =>
   have H := HA.out
   clear HA
   simp only [laws_eqByteS.l0] at H
   replace H := itd_ H; obtain ⟨c4b0, H⟩ | ⟨c4b0, H⟩ := H
   ·replace H := ipd_ H; obtain ⟨c5b0, H⟩ := H
    replace H := ipd_ H; obtain ⟨c6b0, H⟩ := H
    replace H := ip_ H; obtain ⟨c7, H⟩ := H
    have c7b0 : ((rd l0 x5_1) == (rd l1 x5_1)) = true := beq_iff_eq.mpr c7
    have c7b1 : ((rd l0 x5_1) != (rd l1 x5_1)) = false := bne_eq_false_iff_eq.mpr c7
    clear c7
    have H' := Aside0.mk H
    clear H
    obtain ⟨ad601, e601, hx601_0, p601, q601⟩ := ai_ HR0.out x5_1
    cases e601
    obtain ⟨ad602, e602, hx602_0, p602, q602⟩ := ai_ HR1.out x5_1
    cases e602
    go_wp2
    repeat (go_quiet (fail); try go_wp2)
    go_roundg k1
    case measure => have := HK1.out; omega
    case rel => exact ⟨(wrap64 (x5_1 + 1)), e1_, H', ⟨by have := HK1.out; omega⟩, dw_⟩
   ·obtain rfl := Option.some.inj H
    go_wp2
    repeat (go_quiet (fail); try go_wp2)
    go_ret
    exact ⟨e1_, dw_⟩
end Go.Proofs.Ytjnnglphdaemaaa.Q
end

section
-- Written by a program of this session (wip/tools/pp.sh) over the print of the kit.
namespace Go.Proofs.Ytjnnglphdaemaaa.Q
open Go.RowKit Go.Proofs.YtjnnglphdaemaaaW.PrintWords Go.Proofs.YtjnnglphdaemaaaW.PrintLast Go.Proofs.YtjnnglphdaemaaaW.PrintMore
attribute [local go_sem] max2_int min2_int max_two min_two max_three min_three max_four min_four   -- for this text's walks alone
set_option linter.unusedVariables false
set_option linter.unusedSimpArgs false
def laws_markByteS.l0 : Nat → List Int → Int → Int → Option (Int × List Int)
 | 0, _, _, _ => none
 | k + 1, x0, x1, x5 => if x5 < (x0.length : Int) then (if 0 ≤ x5 then (laws_markByteS.l0 k (x0.set (x5 : Int).toNat ((x1) % 256)) (wrap64 (x1 + 1)) (wrap64 (x5 + 1))) else (none)) else (some (x1, x0))
def laws_markByteS.f (k : Nat) (l0 : List Int) (a1 : Int) : Option (Int × List Int) := laws_markByteS.l0 k l0 a1 0
theorem laws_markByteS.mono_l : ∀ k, (∀ y0 y1 y2, LeO (laws_markByteS.l0 k y0 y1 y2) (laws_markByteS.l0 (k + 1) y0 y1 y2))
 | 0 => fun _ _ _ r h => by simp [laws_markByteS.l0] at h
 | k + 1 => by
  have ih0 := laws_markByteS.mono_l k
  ·intro y0 y1 y2
   unfold laws_markByteS.l0
   repeat' (with_reducible first | exact LeO.refl _ | exact LeO.none _ | apply ih0 | apply LeO.ite | refine LeO.bind ?_ fun _ => ?_)
theorem laws_markByteS.mono : ∀ a0 a1 k, LeO (laws_markByteS.f k a0 a1) (laws_markByteS.f (k + 1) a0 a1) := by
 intro a0 a1 k
 have ih0 := laws_markByteS.mono_l k
 unfold laws_markByteS.f
 repeat' (with_reducible first | exact LeO.refl _ | exact LeO.none _ | apply ih0 | apply LeO.ite | refine LeO.bind ?_ fun _ => ?_)
set_option maxHeartbeats 8000000 in
set_option maxRecDepth 100000 in
theorem laws_markByteS.calls (k : Nat) (P0_ : Nat → Prop) (u9000_ : Value) (l0 : List Int) (a1 : Int) (r1 : Int) (r2 : List Int) (w0 w : World) (hB : Below w0.heap.size w0 w) (ho0 : Kd.R (Kd.int .u8) 5 w w0.heap.size P0_ u9000_ l0) (h : laws_markByteS.f k l0 a1 = some (r1, r2)) :
  Calls Try.prog 58 #[u9000_, .int .i64 a1] w fun e w' => e = .returned (.int .i64 r1) ∧ Kd.R (Kd.int .u8) 5 w' w0.heap.size (fun k_ => (P0_ k_ ∨ w.heap.size ≤ k_)) u9000_ r2 ∧ Below w0.heap.size w0 w' ∧ Kept w w' (fun k_ => P0_ k_) := by
 have HO0 := Aside0.mk (show Kd.R (Kd.int .u8) 5 w w0.heap.size (fun k_ => (P0_ k_ ∨ w.heap.size ≤ k_)) u9000_ l0 from Kd.R_mono ho0 (fun k_ hk => (.inl hk)))
 have HK := Aside0.mk (Kept.refl w (fun k_ => P0_ k_))
 have HW0 := Aside0.mk hB.size
 have HB := Aside0.mk hB
 clear hB
 have H : (laws_markByteS.l0 k l0 a1 0) = some (r1, r2) := h
 clear h
 have H' := Aside0.mk H
 clear H
 go_enter Try.func58, Try.ntmps58
 go_wp2
 go_loopg [1, 5] k (fun kq v1 v5 w' => ∃ (x0_1 : List Int) (x1_1 : Int) (x5_1 : Int), v1 = .int .i64 x1_1 ∧ v5 = .int .i64 x5_1 ∧ Aside0 (laws_markByteS.l0 kq x0_1 x1_1 x5_1 = some (r1, r2)) ∧ Aside0 (kq ≤ k) ∧ Aside0 (Kd.R (Kd.int .u8) 5 w' w0.heap.size (fun k_ => (P0_ k_ ∨ w.heap.size ≤ k_)) u9000_ x0_1) ∧ Aside0 (Kept w w' (fun k_ => P0_ k_)) ∧ Aside0 (Below w0.heap.size w0 w'))
 case atStart => exact ⟨(l0), (a1), (0), e1_, e1_, H', ⟨Nat.le_refl _⟩, ⟨kr_ HO0.out⟩, ⟨by repeat (first | (with_reducible first | exact HK.out | apply Kept.alloc | apply Kept.drewN | apply Kept.drew) | exact HK.out)⟩, ⟨bw_ HB⟩⟩
 case round =>
  clear H'
  obtain ⟨x0_1, x1_1, x5_1, rfl, rfl, HA, HK1, HO_0, HK, HB⟩ := hrel
  cases gk with
  | zero => exact absurd HA.out (by simp [laws_markByteS.l0])
  | succ k1 =>
   have H := HA.out
   clear HA
   simp only [laws_markByteS.l0] at H
   replace H := itd_ H; obtain ⟨c3b0, H⟩ | ⟨c3b0, H⟩ := H
   ·replace H := ipd_ H; obtain ⟨c4b0, H⟩ := H
    obtain ⟨y601, hy601⟩ : ∃ y_ : List Int, y_ = (x0_1.set (x5_1 : Int).toNat ((x1_1) % 256)) := ⟨_, rfl⟩
    replace H : (laws_markByteS.l0 k1 y601 (wrap64 (x1_1 + 1)) (wrap64 (x5_1 + 1))) = some (r1, r2) := yh_ hy601 H
    have Ny601 := Aside0.mk hy601
    clear hy601
    have H' := Aside0.mk H
    clear H
    obtain ⟨Ao6, co6, eo6⟩ := Kd.R_slice HO_0.out
    subst eo6
    have p5 : 0 ≤ (x5_1 : Int) := of_decide_eq_true as_
    have q5 : (x5_1 : Int) < ((x0_1.length : Int) : Int) := of_decide_eq_true as_
    obtain ⟨go5, co5, eo5, gb5, gl5, cl5, HG5⟩ := Kd.R_form HO_0.out (by omega)
    (first | cases eo5 | (injection eo5 with ea_ en_ ec_; (first | subst ea_ | (injection ea_ with ea_; subst ea_)); subst ec_; clear en_))
    have GB5 := Aside0.mk gb5
    have GG5 := Aside0.mk HG5
    clear gb5 gl5 HG5
    have HMgo5 := Aside0.mk (show (P0_ go5 ∨ w.heap.size ≤ go5) from (HO_0.out.1 _ rfl))
    obtain ⟨hx5_0, hf5_0⟩ := Kd.R_celln 0 HO_0.out (x5_1 : Int) p5 q5
    replace p5 := eq_true p5
    replace q5 := eq_true q5
    have HP7 := Kd.R_putg HO_0.out (x5_1 : Int) ((x1_1) % 256)
    go_wp2_with (first | ((with_reducible refine gate_store (t := 5) (p := 16) rfl ?_); refine store_event (t := 5) (p := 16) (v := ?vo_w8) (w1 := (wr.setCell ⟨go5, (x5_1 : Int).toNat, none⟩ (.int .u8 ((x1_1) % 256)))) ?hg ?ho ?hn ?hr ?_; (case ho => rfl); (case hg => rfl); (case hn => rfl); (case hr => first | (go_simp; done) | (go_simp; rfl)); intro w8 hw; have hg : wr.grownBy w8 (some go5) := (by rw [hw]; exact HP7.2); have hp_ : Kd.R (Kd.int .u8) 5 w8 w0.heap.size (fun k_ => (P0_ k_ ∨ w.heap.size ≤ k_)) (.slice (some ⟨go5, 0, none⟩) x0_1.length co6) y601 := (by rw [hw, Ny601.out]; exact HP7.1); clear HP7; replace HB := Aside0.mk ((by rw [hw]; exact below_set (HB.out) GB5.out : Below w0.heap.size w0 w8)); replace HK := Aside0.mk (Kept.of_grown (S := (fun k_ => P0_ k_)) hg (by repeat (first | (with_reducible first | exact HK.out | apply Kept.alloc | apply Kept.drewN | apply Kept.drew) | exact HK.out)) (fun k_ e_ => (HO_0.out.1 k_ e_))); replace HO_0 := Aside0.mk hp_; clear hg hw hp_))
    go_roundg k1
    case measure => have := HK1.out; omega
    case rel => exact ⟨(y601), (wrap64 (x1_1 + 1)), (wrap64 (x5_1 + 1)), e1_, e1_, H', ⟨by have := HK1.out; omega⟩, ⟨kr_ HO_0.out⟩, ⟨by repeat (first | (with_reducible first | exact HK.out | apply Kept.alloc | apply Kept.drewN | apply Kept.drew) | exact HK.out)⟩, ⟨bw_ HB⟩⟩
   ·replace H := so2_ H; obtain ⟨rfl, rfl⟩ := H
    obtain ⟨Ao9, co9, eo9⟩ := Kd.R_slice HO_0.out
    subst eo9
    go_wp2
    go_ret
    exact ⟨e2_, kr_ HO_0.out, bw_ HB, by repeat (first | (with_reducible first | exact HK.out | apply Kept.alloc | apply Kept.drewN | apply Kept.drew) | exact HK.out)⟩
end Go.Proofs.Ytjnnglphdaemaaa.Q
end

section
-- Written by a program of this session (wip/tools/pp.sh) over the print of the kit.
namespace Go.Proofs.Ytjnnglphdaemaaa.Q
open Go.RowKit Go.Proofs.YtjnnglphdaemaaaW.PrintWords Go.Proofs.YtjnnglphdaemaaaW.PrintLast Go.Proofs.YtjnnglphdaemaaaW.PrintMore
attribute [local go_sem] max2_int min2_int max_two min_two max_three min_three max_four min_four   -- for this text's walks alone
set_option linter.unusedVariables false
set_option linter.unusedSimpArgs false
def laws_heldByteS.l0 : Nat → List Int → Int → Int → Option (Int)
 | 0, _, _, _ => none
 | k + 1, x0, x1, x5 => if x5 < (x0.length : Int) then (if 0 ≤ x5 then (if (rd x0 x5) = ((x1) % 256) then (laws_heldByteS.l0 k x0 (wrap64 (x1 + 1)) (wrap64 (x5 + 1))) else (some (-1))) else (none)) else (some x1)
def laws_heldByteS.f (k : Nat) (l0 : List Int) (a1 : Int) : Option (Int) := laws_heldByteS.l0 k l0 a1 0
theorem laws_heldByteS.mono_l : ∀ k, (∀ y0 y1 y2, LeO (laws_heldByteS.l0 k y0 y1 y2) (laws_heldByteS.l0 (k + 1) y0 y1 y2))
 | 0 => fun _ _ _ r h => by simp [laws_heldByteS.l0] at h
 | k + 1 => by
  have ih0 := laws_heldByteS.mono_l k
  ·intro y0 y1 y2
   unfold laws_heldByteS.l0
   repeat' (with_reducible first | exact LeO.refl _ | exact LeO.none _ | apply ih0 | apply LeO.ite | refine LeO.bind ?_ fun _ => ?_)
theorem laws_heldByteS.mono : ∀ a0 a1 k, LeO (laws_heldByteS.f k a0 a1) (laws_heldByteS.f (k + 1) a0 a1) := by
 intro a0 a1 k
 have ih0 := laws_heldByteS.mono_l k
 unfold laws_heldByteS.f
 repeat' (with_reducible first | exact LeO.refl _ | exact LeO.none _ | apply ih0 | apply LeO.ite | refine LeO.bind ?_ fun _ => ?_)
set_option maxHeartbeats 8000000 in
set_option maxRecDepth 100000 in
theorem laws_heldByteS.calls (k : Nat) (A0 : Option Addr) (c0 : Nat) (l0 : List Int) (a1 : Int) (r : Int) (w : World) (hr0 : Kd.C (Kd.int .u8) w A0 l0.length l0) (hc0 : l0.length ≤ c0) (h : laws_heldByteS.f k l0 a1 = some r) :
  Calls Try.prog 89 #[.slice A0 l0.length c0, .int .i64 a1] w fun e w' => e = .returned (.int .i64 r) ∧ Drawn0 w w' := by
 have HR0 := Aside0.mk hr0
 have HC0 := Aside0.mk hc0
 clear hr0 hc0
 have H : (laws_heldByteS.l0 k l0 a1 0) = some r := h
 clear h
 have H' := Aside0.mk H
 clear H
 go_enter Try.func89, Try.ntmps89
 go_wp2
 go_loopg [1, 5] k (fun kq v1 v5 w' => ∃ (x1_1 : Int) (x5_1 : Int), v1 = .int .i64 x1_1 ∧ v5 = .int .i64 x5_1 ∧ Aside0 (laws_heldByteS.l0 kq l0 x1_1 x5_1 = some r) ∧ Aside0 (kq ≤ k) ∧ Drawn0 w w')
 case atStart => exact ⟨(a1), (0), e1_, e1_, H', ⟨Nat.le_refl _⟩, dw_⟩
 case round =>
  clear H'
  obtain ⟨x1_1, x5_1, rfl, rfl, HA, HK1, ⟨m1, rfl⟩⟩ := hrel
  cases gk with
  | zero => exact absurd HA.out (by simp [laws_heldByteS.l0])
  | succ k1 =>
   have H := HA.out
   clear HA
   simp only [laws_heldByteS.l0] at H
   replace H := itd_ H; obtain ⟨c3b0, H⟩ | ⟨c3b0, H⟩ := H
   ·replace H := ipd_ H; obtain ⟨c4b0, H⟩ := H
    replace H := it_ H; obtain ⟨c5, H⟩ | ⟨c5, H⟩ := H
    ·have c5b0 : ((rd l0 x5_1) == ((x1_1) % 256)) = true := beq_iff_eq.mpr c5
     have c5b1 : ((rd l0 x5_1) != ((x1_1) % 256)) = false := bne_eq_false_iff_eq.mpr c5
     clear c5
     have H' := Aside0.mk H
     clear H
     obtain ⟨ad601, e601, hx601_0, p601, q601⟩ := ai_ HR0.out x5_1
     cases e601
     go_wp2
     go_roundg k1
     case measure => have := HK1.out; omega
     case rel => exact ⟨(wrap64 (x1_1 + 1)), (wrap64 (x5_1 + 1)), e1_, e1_, H', ⟨by have := HK1.out; omega⟩, dw_⟩
    ·have c5b0 : ((rd l0 x5_1) == ((x1_1) % 256)) = false := beq_eq_false_iff_ne.mpr c5
     have c5b1 : ((rd l0 x5_1) != ((x1_1) % 256)) = true := bne_iff_ne.mpr c5
     obtain rfl := Option.some.inj H
     obtain ⟨ad601, e601, hx601_0, p601, q601⟩ := ai_ HR0.out x5_1
     cases e601
     go_wp2
     go_ret
     exact ⟨e1_, dw_⟩
   ·obtain rfl := Option.some.inj H
    go_wp2
    go_ret
    exact ⟨e1_, dw_⟩
end Go.Proofs.Ytjnnglphdaemaaa.Q
end

section
/- What the laws' own helpers do with lists of bytes: a list equals itself, marks put and found again. -/
namespace Go.Proofs.Ytjnnglphdaemaaa.Q
open Go.RowKit Go.Proofs.Ytjnnglphdaemaaa.B Go.Proofs.YtjnnglphdaemaaaW.PrintWords
set_option linter.unusedVariables false
set_option linter.unusedSimpArgs false

theorem nextB {i n : Nat} (h : i < n) (hn : n ≤ 9223372036854775807) : wrap64 ((i : Int) + 1) = ((i + 1 : Nat) : Int) := by
  rw [w64 (by omega) (by omega)]
  omega
theorem eqByteS_ev (l : List Int) (hl : l.length ≤ 9223372036854775807) : Ev (fun k => laws_eqByteS.f k l l) true := by
  have main : ∀ (d i : Nat), i + d = l.length → Ev (fun k => laws_eqByteS.l0 k l l (i : Int)) true := by
    intro d
    induction d with
    | zero =>
      intro i hi
      refine Ev.step (f := fun _ => some true) (fun k => ?_) (Ev.now _)
      simp only [laws_eqByteS.l0]
      rw [if_neg (by omega)]
    | succ d ih =>
      intro i hi
      refine Ev.step (fun k => ?_) (ih (i + 1) (by omega))
      simp only [laws_eqByteS.l0]
      rw [if_pos (by omega), if_pos (by omega), if_pos (by omega), if_pos trivial, nextB (show i < l.length by omega) hl]
  refine Ev.congr (fun k => ?_) (main l.length 0 (by omega))
  unfold laws_eqByteS.f
  rw [if_pos rfl]
  rfl
/-- Marks: numbers from a on, as bytes. -/
def markB (a : Int) (n : Nat) : List Int := (List.range n).map fun (i : Nat) => (a + (i : Int)) % 256
theorem markB_length (a : Int) (n : Nat) : (markB a n).length = n := by simp [markB]
theorem markB_succ (a : Int) (n : Nat) : markB a (n + 1) = markB a n ++ [(a + (n : Int)) % 256] := by
  unfold markB
  rw [List.range_succ, List.map_append]
  rfl
theorem markB_get (a : Int) (n i : Nat) (h : i < n) : (markB a n)[i]? = some ((a + (i : Int)) % 256) := by
  unfold markB
  rw [List.getElem?_map, List.getElem?_range h]
  rfl
theorem markByteS_ev (l : List Int) (a : Int) (h0 : 0 ≤ a) (h1 : a + l.length ≤ 4611686018427387904) : Ev (fun k => laws_markByteS.f k l a) (a + (l.length : Int), markB a l.length) := by
  have main : ∀ (d i : Nat) (acc : List Int), i + d = l.length → acc.length = l.length → acc.take i = markB a i → Ev (fun k => laws_markByteS.l0 k acc (a + (i : Int)) (i : Int)) (a + (l.length : Int), markB a l.length) := by
    intro d
    induction d with
    | zero =>
      intro i acc hi ha ht
      have hil : i = l.length := by omega
      subst hil
      rw [List.take_of_length_le (by omega)] at ht
      subst ht
      refine Ev.step (f := fun _ => some (a + (l.length : Int), markB a l.length)) (fun k => ?_) (Ev.now _)
      simp only [laws_markByteS.l0]
      rw [if_neg (by omega)]
    | succ d ih =>
      intro i acc hi ha ht
      refine Ev.step (fun k => ?_) (ih (i + 1) (acc.set i ((a + (i : Int)) % 256)) (by omega) (by simp [ha]) ?_)
      · simp only [laws_markByteS.l0]
        rw [if_pos (by omega), if_pos (by omega), nextB (show i < l.length by omega) (by omega), w64 (x := a + (i : Int) + 1) (by omega) (by omega)]
        have e : a + (i : Int) + 1 = a + ((i + 1 : Nat) : Int) := by omega
        rw [e]
        rfl
      · rw [set_take _ (by omega), ht, markB_succ]
  refine Ev.congr (fun k => ?_) (main l.length 0 l (by omega) rfl (by simp [markB]))
  unfold laws_markByteS.f
  congr 1
  omega
theorem heldByteS_ev (n : Nat) (a : Int) (h0 : 0 ≤ a) (h1 : a + n ≤ 4611686018427387904) : Ev (fun k => laws_heldByteS.f k (markB a n) a) (a + (n : Int)) := by
  have main : ∀ (d i : Nat), i + d = n → Ev (fun k => laws_heldByteS.l0 k (markB a n) (a + (i : Int)) (i : Int)) (a + (n : Int)) := by
    intro d
    induction d with
    | zero =>
      intro i hi
      have hil : i = n := by omega
      subst hil
      refine Ev.step (f := fun _ => some (a + (i : Int))) (fun k => ?_) (Ev.now _)
      simp only [laws_heldByteS.l0]
      rw [if_neg (by rw [markB_length]; omega)]
    | succ d ih =>
      intro i hi
      refine Ev.step (fun k => ?_) (ih (i + 1) (by omega))
      simp only [laws_heldByteS.l0]
      rw [if_pos (by rw [markB_length]; omega), if_pos (by omega), rd_at (markB_get a n i (by omega)), if_pos rfl, nextB (show i < n by omega) (by omega), w64 (x := a + (i : Int) + 1) (by omega) (by omega)]
      congr 1
      omega
  refine Ev.congr (fun k => ?_) (main n 0 (by omega))
  unfold laws_heldByteS.f
  congr 1
  omega
end Go.Proofs.Ytjnnglphdaemaaa.Q
end

section
-- Written by a program of this session (wip/tools/pp.sh) over the print of the kit.
namespace Go.Proofs.Ytjnnglphdaemaaa.Q
open Go.RowKit Go.Proofs.YtjnnglphdaemaaaW.PrintWords Go.Proofs.YtjnnglphdaemaaaW.PrintLast Go.Proofs.YtjnnglphdaemaaaW.PrintMore
attribute [local go_sem] max2_int min2_int max_two min_two max_three min_three max_four min_four   -- for this text's walks alone
set_option linter.unusedVariables false
set_option linter.unusedSimpArgs false
def laws_eqStore.f (k : Nat) (l0_0 : List ByteArray) (a0_1 : Int) (a0_2 : ByteArray) (l0_3 : List Int) (a0_4 : Int) (l1_0 : List ByteArray) (a1_1 : Int) (a1_2 : ByteArray) (l1_3 : List Int) (a1_4 : Int) : Option (Bool) := (laws_eqLog.f k l0_0 a0_1 a0_2 l1_0 a1_1 a1_2).bind fun t603 => (if t603 = true then ((laws_eqByteS.f k l0_3 l1_3).bind fun t604 => (if t604 = true then (if a0_4 = a1_4 then (some true) else (none)) else (none))) else (none))
theorem laws_eqStore.mono : ∀ a0 a1 a2 a3 a4 a5 a6 a7 a8 a9 k, LeO (laws_eqStore.f k a0 a1 a2 a3 a4 a5 a6 a7 a8 a9) (laws_eqStore.f (k + 1) a0 a1 a2 a3 a4 a5 a6 a7 a8 a9) := by
 intro a0 a1 a2 a3 a4 a5 a6 a7 a8 a9 k
 unfold laws_eqStore.f
 repeat' (with_reducible first | exact LeO.refl _ | exact LeO.none _ | apply laws_eqByteS.mono | apply laws_eqLog.mono | apply LeO.ite | refine LeO.bind ?_ fun _ => ?_)
set_option maxHeartbeats 8000000 in
set_option maxRecDepth 100000 in
theorem laws_eqStore.calls (k : Nat) (A0_0 : Option Addr) (c0_0 : Nat) (l0_0 : List ByteArray) (a0_1 : Int) (a0_2 : ByteArray) (A0_3 : Option Addr) (c0_3 : Nat) (l0_3 : List Int) (a0_4 : Int) (A1_0 : Option Addr) (c1_0 : Nat) (l1_0 : List ByteArray) (a1_1 : Int) (a1_2 : ByteArray) (A1_3 : Option Addr) (c1_3 : Nat) (l1_3 : List Int) (a1_4 : Int) (r : Bool) (w : World) (hr0_0 : Kd.C Kd.string w A0_0 l0_0.length l0_0) (hc0_0 : l0_0.length ≤ c0_0) (hr0_3 : Kd.C (Kd.int .u8) w A0_3 l0_3.length l0_3) (hc0_3 : l0_3.length ≤ c0_3) (hr1_0 : Kd.C Kd.string w A1_0 l1_0.length l1_0) (hc1_0 : l1_0.length ≤ c1_0) (hr1_3 : Kd.C (Kd.int .u8) w A1_3 l1_3.length l1_3) (hc1_3 : l1_3.length ≤ c1_3) (h : laws_eqStore.f k l0_0 a0_1 a0_2 l0_3 a0_4 l1_0 a1_1 a1_2 l1_3 a1_4 = some r) :
  Calls Try.prog 47 #[.agg #[.slice A0_0 l0_0.length c0_0, .int .i64 a0_1, .string a0_2, .slice A0_3 l0_3.length c0_3, .int .i64 a0_4], .agg #[.slice A1_0 l1_0.length c1_0, .int .i64 a1_1, .string a1_2, .slice A1_3 l1_3.length c1_3, .int .i64 a1_4]] w fun e w' => e = .returned (.bool r) ∧ Below w.heap.size w w' := by
 have hu37 := Try.underlying37
 have hu31 := Try.underlying31
 have HR0_0 := Aside0.mk hr0_0
 have HC0_0 := Aside0.mk hc0_0
 clear hr0_0 hc0_0
 have HR0_3 := Aside0.mk hr0_3
 have HC0_3 := Aside0.mk hc0_3
 clear hr0_3 hc0_3
 have HR1_0 := Aside0.mk hr1_0
 have HC1_0 := Aside0.mk hc1_0
 clear hr1_0 hc1_0
 have HR1_3 := Aside0.mk hr1_3
 have HC1_3 := Aside0.mk hc1_3
 clear hr1_3 hc1_3
 have HB := Aside0.mk (Below.refl w.heap.size w)
 have H : ((laws_eqLog.f k l0_0 a0_1 a0_2 l1_0 a1_1 a1_2).bind fun t603 => (if t603 = true then ((laws_eqByteS.f k l0_3 l1_3).bind fun t604 => (if t604 = true then (if a0_4 = a1_4 then (some true) else (none)) else (none))) else (none))) = some r := h
 clear h
 replace H := bi_ H; obtain ⟨t603, A3, H⟩ := H
 replace H := ipb_ H; obtain ⟨rfl, H⟩ := H
 replace H := bi_ H; obtain ⟨t604, A5, H⟩ := H
 replace H := ipb_ H; obtain ⟨rfl, H⟩ := H
 replace H := ip_ H; obtain ⟨c7, H⟩ := H
 have c7b0 : (a0_4 == a1_4) = true := beq_iff_eq.mpr c7
 have c7b1 : (a0_4 != a1_4) = false := bne_eq_false_iff_eq.mpr c7
 clear c7
 obtain rfl := Option.some.inj H
 go_enter Try.func47, Try.ntmps47
 go_wp2_with (first | ((with_reducible refine gd_ 2 ?_); refine bx_ 2 37 #[.slice A0_0 l0_0.length c0_0, .int .i64 a0_1, .string a0_2, .slice A0_3 l0_3.length c0_3, .int .i64 a0_4] ?_; intro gb601 hg w8 hbox hb; have BK601 := Aside0.mk hbox; have GW601 := gg_ hg HB; have GE601 := GW601; replace HB := ss_ HB hb; clear hb hbox hg) | ((with_reducible refine gd_ 3 ?_); refine bx_ 3 37 #[.slice A1_0 l1_0.length c1_0, .int .i64 a1_1, .string a1_2, .slice A1_3 l1_3.length c1_3, .int .i64 a1_4] ?_; intro gb602 hg w9 hbox hb; have BK602 := Aside0.mk hbox; have GW602 := gg_ hg HB; have GE602 := GW602; replace HB := ss_ HB hb; have NB601_602 := nla_ hg BK601; have NB602_601 := nga_ hg BK601; replace BK601 := kl_ BK601 hb; clear hb hbox hg; have hnb10 := NB601_602.out; have hnc10 := NB602_601.out; have hz11 := cz5_ BK601; have hz12 := cz5_ BK602) | ((with_reducible refine gq_ 31 9 ?_); refine gc_ 9 Try.func31 (laws_eqLog.calls k _ _ l0_0 a0_1 a0_2 _ _ l1_0 a1_1 a1_2 true _ (cb_ HR0_0 HB) HC0_0.out (cb_ HR1_0 HB) HC1_0.out A3.out) ?_; rintro e w13 ⟨rfl, hb⟩; refine ⟨_, rfl, ?_⟩; replace BK601 := kl_ BK601 hb; replace BK602 := kl_ BK602 hb; replace HB := ss_ HB hb; clear hb; have hz14 := cz5_ BK601; have hz15 := cz5_ BK602) | ((with_reducible refine gq_ 57 15 ?_); refine gc_ 15 Try.func57 (laws_eqByteS.calls k _ _ l0_3 _ _ l1_3 true _ (cb_ HR0_3 HB) HC0_3.out (cb_ HR1_3 HB) HC1_3.out A5.out) ?_; rintro e w' ⟨rfl, ⟨nd, rfl⟩⟩; refine ⟨_, rfl, ?_⟩))
 go_ret
 exact ⟨e2_, bw_ HB⟩
end Go.Proofs.Ytjnnglphdaemaaa.Q
end

section
/- A store equals itself. -/
namespace Go.Proofs.Ytjnnglphdaemaaa.Q
open Go.RowKit Go.Proofs.Ytjnnglphdaemaaa.B Go.Proofs.YtjnnglphdaemaaaW.PrintWords
set_option linter.unusedVariables false

theorem eqStore_ev (l : List ByteArray) (n : Int) (s : ByteArray) (b : List Int) (u : Int) (hl : l.length ≤ 9223372036854775807) (hb : b.length ≤ 9223372036854775807) : Ev (fun k => laws_eqStore.f k l n s b u l n s b u) true := by
  unfold laws_eqStore.f
  exact Ev.bind (eqLog_ev l n s hl) (Ev.pos rfl (Ev.bind (eqByteS_ev b hb) (Ev.pos rfl (Ev.pos rfl (Ev.now _)))))
end Go.Proofs.Ytjnnglphdaemaaa.Q
end

section
-- Written by a program of this session (wip/tools/pp.sh) over the print of the kit.
namespace Go.Proofs.Ytjnnglphdaemaaa.Q
open Go.RowKit Go.Proofs.YtjnnglphdaemaaaW.PrintWords Go.Proofs.YtjnnglphdaemaaaW.PrintLast Go.Proofs.YtjnnglphdaemaaaW.PrintMore
attribute [local go_sem] max2_int min2_int max_two min_two max_three min_three max_four min_four   -- for this text's walks alone
set_option linter.unusedVariables false
set_option linter.unusedSimpArgs false
def laws_szByteS.f (l0 : List Int) (a1 : Int) : Option (Int) := if (wrap64 (a1 - (l0.length : Int))) < 0 then (some (-1)) else (some (wrap64 (a1 - (l0.length : Int))))
set_option maxHeartbeats 8000000 in
set_option maxRecDepth 100000 in
theorem laws_szByteS.calls (A0 : Option Addr) (c0 : Nat) (l0 : List Int) (a1 : Int) (r : Int) (w : World) (hr0 : Kd.C (Kd.int .u8) w A0 l0.length l0) (hc0 : l0.length ≤ c0) (h : laws_szByteS.f l0 a1 = some r) :
  Calls Try.prog 86 #[.slice A0 l0.length c0, .int .i64 a1] w fun e w' => e = .returned (.int .i64 r) ∧ Drawn0 w w' := by
 have HR0 := Aside0.mk hr0
 have HC0 := Aside0.mk hc0
 clear hr0 hc0
 have H : (if (wrap64 (a1 - (l0.length : Int))) < 0 then (some (-1)) else (some (wrap64 (a1 - (l0.length : Int))))) = some r := h
 clear h
 replace H := itd_ H; obtain ⟨c3b0, H⟩ | ⟨c3b0, H⟩ := H
 ·obtain rfl := Option.some.inj H
  go_enter Try.func86, Try.ntmps86
  go_wp2
  go_ret
  exact ⟨e1_, dw_⟩
 ·obtain rfl := Option.some.inj H
  go_enter Try.func86, Try.ntmps86
  go_wp2
  go_ret
  exact ⟨e1_, dw_⟩
end Go.Proofs.Ytjnnglphdaemaaa.Q
end

section
-- Written by a program of this session (wip/tools/pp.sh) over the print of the kit.
namespace Go.Proofs.Ytjnnglphdaemaaa.Q
open Go.RowKit Go.Proofs.YtjnnglphdaemaaaW.PrintWords Go.Proofs.YtjnnglphdaemaaaW.PrintLast Go.Proofs.YtjnnglphdaemaaaW.PrintMore
attribute [local go_sem] max2_int min2_int max_two min_two max_three min_three max_four min_four   -- for this text's walks alone
set_option linter.unusedVariables false
set_option linter.unusedSimpArgs false
def laws_toByteS.l0 : Nat → List Int → List Int → Int → Option (List Int)
 | 0, _, _, _ => none
 | k + 1, x0, x3, x4 => if x4 < (x0.length : Int) then (if 0 ≤ x4 then (if x4 < (x3.length : Int) then (laws_toByteS.l0 k x0 (x3.set (x4 : Int).toNat (rd x0 x4)) (wrap64 (x4 + 1))) else (none)) else (none)) else (some x3)
def laws_toByteS.f (k : Nat) (l0 : List Int) : Option (List Int) := if 0 ≤ (l0.length : Int) then (if ((l0.length : Int) : Int).toNat ≤ 281474976710656 then (laws_toByteS.l0 k l0 (List.replicate ((l0.length : Int) : Int).toNat 0) 0) else (none)) else (none)
theorem laws_toByteS.mono_l : ∀ k, (∀ y0 y1 y2, LeO (laws_toByteS.l0 k y0 y1 y2) (laws_toByteS.l0 (k + 1) y0 y1 y2))
 | 0 => fun _ _ _ r h => by simp [laws_toByteS.l0] at h
 | k + 1 => by
  have ih0 := laws_toByteS.mono_l k
  ·intro y0 y1 y2
   unfold laws_toByteS.l0
   repeat' (with_reducible first | exact LeO.refl _ | exact LeO.none _ | apply ih0 | apply LeO.ite | refine LeO.bind ?_ fun _ => ?_)
theorem laws_toByteS.mono : ∀ a0 k, LeO (laws_toByteS.f k a0) (laws_toByteS.f (k + 1) a0) := by
 intro a0 k
 have ih0 := laws_toByteS.mono_l k
 unfold laws_toByteS.f
 repeat' (with_reducible first | exact LeO.refl _ | exact LeO.none _ | apply ih0 | apply LeO.ite | refine LeO.bind ?_ fun _ => ?_)
set_option maxHeartbeats 8000000 in
set_option maxRecDepth 100000 in
theorem laws_toByteS.calls (k : Nat) (A0 : Option Addr) (c0 : Nat) (l0 : List Int) (r : List Int) (w : World) (hr0 : Kd.C (Kd.int .u8) w A0 l0.length l0) (hc0 : l0.length ≤ c0) (h : laws_toByteS.f k l0 = some r) :
  Calls Try.prog 56 #[.slice A0 l0.length c0] w fun e w' => ∃ v0_ : Value, e = .returned (v0_) ∧ Kd.R (Kd.int .u8) 5 w' w.heap.size (fun _ => True) v0_ r ∧ Below w.heap.size w w' := by
 have HR0 := Aside0.mk hr0
 have HC0 := Aside0.mk hc0
 clear hr0 hc0
 have HB := Aside0.mk (Below.refl w.heap.size w)
 have H : (if 0 ≤ (l0.length : Int) then (if ((l0.length : Int) : Int).toNat ≤ 281474976710656 then (laws_toByteS.l0 k l0 (List.replicate ((l0.length : Int) : Int).toNat 0) 0) else (none)) else (none)) = some r := h
 clear h
 replace H := ip_ H; obtain ⟨c2, H⟩ := H
 have c2b0 := eq_true c2
 have c2b1 := decide_eq_true c2
 clear c2
 replace H := ip_ H; obtain ⟨c3, H⟩ := H
 have c3b0 := eq_true c3
 have c3b1 := decide_eq_true c3
 clear c3
 obtain ⟨y601, hy601⟩ : ∃ y_ : List Int, y_ = (List.replicate ((l0.length : Int) : Int).toNat 0) := ⟨_, rfl⟩
 replace H : (laws_toByteS.l0 k l0 y601 0) = some r := yh_ hy601 H
 have Ny601 := Aside0.mk hy601
 clear hy601
 have H' := Aside0.mk H
 clear H
 go_enter Try.func56, Try.ntmps56
 go_wp2_with (first | ((with_reducible refine gd_ 7 ?_); refine Kd.R_make (Kd.int .u8) _ 5 rfl (N := 7) rfl 22 _ _ rfl (l0.length : Int) rfl rfl Try.underlying22 (.int .u8 0) 1 info5 rfl (by decide) (by omega) 0 (ok := fun _ => True) (okp := fun _ => True) rfl (fun _ hk => hk) trivial (of_decide_eq_true as_) (Nat.le_trans (Nat.mul_le_mul_right _ (of_decide_eq_true as_ : (l0.length : Int).toNat ≤ 281474976710656)) (by omega)) (Below.refl _ _) (Nat.le_refl _) ?_; intro v602 w4 ho5 hb hg_ hnew_; clear hg_ hnew_; (first | rw [← Ny601.out] at ho5 | (simp only [Int.reduceToNat] at ho5; rw [← Ny601.out] at ho5)); have HO603 := Aside0.mk (Kd.R_lower ho5 (sz_ HB)); replace HB := ss_ HB hb; clear hb ho5))
 go_loopg [4] k (fun kq v4 w' => ∃ (x3_1 : List Int) (x4_1 : Int), v4 = .int .i64 x4_1 ∧ Aside0 (laws_toByteS.l0 kq l0 x3_1 x4_1 = some r) ∧ Aside0 (kq ≤ k) ∧ Aside0 (Kd.R (Kd.int .u8) 5 w' w.heap.size (fun _ => True) v602 x3_1) ∧ Aside0 (Below w.heap.size w w'))
 case atStart => exact ⟨(y601), (0), e1_, H', ⟨Nat.le_refl _⟩, ⟨kr_ HO603.out⟩, ⟨bw_ HB⟩⟩
 case round =>
  clear H'
  try clear c2
  try clear c2b0
  try clear c2b1
  try clear c3
  try clear c3b0
  try clear c3b1
  obtain ⟨x3_1, x4_1, rfl, HA, HK1, HO_3, HB⟩ := hrel
  cases gk with
  | zero => exact absurd HA.out (by simp [laws_toByteS.l0])
  | succ k1 =>
   have H := HA.out
   clear HA
   simp only [laws_toByteS.l0] at H
   replace H := itd_ H; obtain ⟨c6b0, H⟩ | ⟨c6b0, H⟩ := H
   ·replace H := ipd_ H; obtain ⟨c7b0, H⟩ := H
    replace H := ipd_ H; obtain ⟨c8b0, H⟩ := H
    obtain ⟨y605, hy605⟩ : ∃ y_ : List Int, y_ = (x3_1.set (x4_1 : Int).toNat (rd l0 x4_1)) := ⟨_, rfl⟩
    replace H : (laws_toByteS.l0 k1 l0 y605 (wrap64 (x4_1 + 1))) = some r := yh_ hy605 H
    have Ny605 := Aside0.mk hy605
    clear hy605
    have H' := Aside0.mk H
    clear H
    have p604 : 0 ≤ (x4_1 : Int) := of_decide_eq_true as_
    have q604 : x4_1 < (l0.length : Int) := of_decide_eq_true as_
    obtain ⟨ad604, e604, hx604_0⟩ := Kd.at_int HR0.out x4_1 p604 q604
    cases e604
    replace hx604_0 := (HB.out.cell (World.block_lt_of_cell? w _ hx604_0)).trans hx604_0
    replace p604 := eq_true p604
    replace q604 := eq_true q604
    have p9 : 0 ≤ (x4_1 : Int) := of_decide_eq_true as_
    have q9 : (x4_1 : Int) < ((x3_1.length : Int) : Int) := of_decide_eq_true as_
    obtain ⟨go9, co9, eo9, gb9, gl9, cl9, HG9⟩ := Kd.R_form HO_3.out (by omega)
    (first | cases eo9 | (injection eo9 with ea_ en_ ec_; (first | subst ea_ | (injection ea_ with ea_; subst ea_)); subst ec_; clear en_))
    have GB9 := Aside0.mk gb9
    have GG9 := Aside0.mk HG9
    clear gb9 gl9 HG9
    obtain ⟨hx9_0, hf9_0⟩ := Kd.R_celln 0 HO_3.out (x4_1 : Int) p9 q9
    replace p9 := eq_true p9
    replace q9 := eq_true q9
    have HP10 := Kd.R_putg HO_3.out (x4_1 : Int) (rd l0 x4_1)
    go_wp2_with (first | ((with_reducible refine gate_store (t := 5) (p := 20) rfl ?_); refine store_event (t := 5) (p := 20) (v := ?vo_w11) (w1 := (wr.setCell ⟨go9, (x4_1 : Int).toNat, none⟩ (.int .u8 (rd l0 x4_1)))) ?hg ?ho ?hn ?hr ?_; (case ho => rfl); (case hg => rfl); (case hn => rfl); (case hr => first | (go_simp; done) | (go_simp; rfl)); intro w11 hw; have hg : wr.grownBy w11 (some go9) := (by rw [hw]; exact HP10.2); have hp_ : Kd.R (Kd.int .u8) 5 w11 w.heap.size (fun _ => True) (.slice (some ⟨go9, 0, none⟩) x3_1.length co9) y605 := (by rw [hw, Ny605.out]; exact HP10.1); clear HP10; replace HO_3 := Aside0.mk hp_; replace HB := Aside0.mk ((by rw [hw]; exact below_set (HB.out) GB9.out : Below w.heap.size w w11)); clear hg hw hp_))
    go_roundg k1
    case measure => have := HK1.out; omega
    case rel => exact ⟨(y605), (wrap64 (x4_1 + 1)), e1_, H', ⟨by have := HK1.out; omega⟩, ⟨kr_ HO_3.out⟩, ⟨bw_ HB⟩⟩
   ·obtain rfl := Option.some.inj H
    go_wp2
    go_ret
    exact ⟨_, e2_, kr_ HO_3.out, bw_ HB⟩
end Go.Proofs.Ytjnnglphdaemaaa.Q
end

section
/- What the laws' own helpers do with lists of bytes: the weight and the copy. -/
namespace Go.Proofs.Ytjnnglphdaemaaa.Q
open Go.RowKit Go.Proofs.Ytjnnglphdaemaaa.B Go.Proofs.YtjnnglphdaemaaaW.PrintWords
set_option linter.unusedVariables false
set_option linter.unusedSimpArgs false

theorem szByteS_eq (l : List Int) (left : Int) (h0 : 0 ≤ left) (h1 : left ≤ 1048576) (hl : l.length ≤ 9223372036854775807) :
    ∃ r, laws_szByteS.f l left = some r ∧ (r < 0 ∨ 0 ≤ r ∧ r + l.length = left) := by
  unfold laws_szByteS.f
  rw [w64 (by omega) (by omega)]
  by_cases h : left - (l.length : Int) < 0
  · exact ⟨-1, if_pos h, .inl (by omega)⟩
  · exact ⟨_, if_neg h, .inr ⟨by omega, by omega⟩⟩
theorem toByteS_ev (l : List Int) (hl : l.length ≤ 1048576) : Ev (fun k => laws_toByteS.f k l) l := by
  have main : ∀ (d i : Nat) (acc : List Int), i + d = l.length → acc.length = l.length → acc.take i = l.take i → Ev (fun k => laws_toByteS.l0 k l acc (i : Int)) l := by
    intro d
    induction d with
    | zero =>
      intro i acc hi ha ht
      refine Ev.step (f := fun _ => some l) (fun k => ?_) (Ev.now _)
      simp only [laws_toByteS.l0]
      rw [if_neg (by omega)]
      rw [List.take_of_length_le (by omega), List.take_of_length_le (by omega)] at ht
      rw [ht]
    | succ d ih =>
      intro i acc hi ha ht
      obtain ⟨x, hx⟩ := get_some (l := l) (i := i) (by omega)
      refine Ev.step (fun k => ?_) (ih (i + 1) (acc.set i x) (by omega) (by simp [ha]) ?_)
      · simp only [laws_toByteS.l0]
        rw [if_pos (by omega), if_pos (by omega), if_pos (by omega), rd_at hx, nextB (show i < l.length by omega) (by omega)]
        rfl
      · rw [set_take _ (by omega), ht, take_one hx]
  refine Ev.congr (fun k => ?_) (main l.length 0 (List.replicate l.length 0) (by omega) (by simp) (by simp))
  unfold laws_toByteS.f
  rw [if_pos (by omega), if_pos (by simp; omega)]
  rfl
end Go.Proofs.Ytjnnglphdaemaaa.Q
end

section
-- Written by a program of this session (wip/tools/pp.sh) over the print of the kit.
namespace Go.Proofs.Ytjnnglphdaemaaa.Q
open Go.RowKit Go.Proofs.YtjnnglphdaemaaaW.PrintWords Go.Proofs.YtjnnglphdaemaaaW.PrintLast Go.Proofs.YtjnnglphdaemaaaW.PrintMore
attribute [local go_sem] max2_int min2_int max_two min_two max_three min_three max_four min_four   -- for this text's walks alone
set_option linter.unusedVariables false
set_option linter.unusedSimpArgs false
def laws_szStore.f (k : Nat) (l0_0 : List ByteArray) (a0_1 : Int) (a0_2 : ByteArray) (l0_3 : List Int) (a0_4 : Int) (a1 : Int) : Option (Int) := (laws_szLog.f k l0_0 a0_1 a0_2 a1).bind fun t602 => (if t602 < 0 then (some (-1)) else ((laws_szByteS.f l0_3 t602).bind fun t603 => (if t603 < 0 then (some (-1)) else (some t603))))
theorem laws_szStore.mono : ∀ a0 a1 a2 a3 a4 a5 k, LeO (laws_szStore.f k a0 a1 a2 a3 a4 a5) (laws_szStore.f (k + 1) a0 a1 a2 a3 a4 a5) := by
 intro a0 a1 a2 a3 a4 a5 k
 unfold laws_szStore.f
 repeat' (with_reducible first | exact LeO.refl _ | exact LeO.none _ | apply laws_szLog.mono | apply LeO.ite | refine LeO.bind ?_ fun _ => ?_)
set_option maxHeartbeats 8000000 in
set_option maxRecDepth 100000 in
theorem laws_szStore.calls (k : Nat) (A0_0 : Option Addr) (c0_0 : Nat) (l0_0 : List ByteArray) (a0_1 : Int) (a0_2 : ByteArray) (A0_3 : Option Addr) (c0_3 : Nat) (l0_3 : List Int) (a0_4 : Int) (a1 : Int) (r : Int) (w : World) (hr0_0 : Kd.C Kd.string w A0_0 l0_0.length l0_0) (hc0_0 : l0_0.length ≤ c0_0) (hr0_3 : Kd.C (Kd.int .u8) w A0_3 l0_3.length l0_3) (hc0_3 : l0_3.length ≤ c0_3) (h : laws_szStore.f k l0_0 a0_1 a0_2 l0_3 a0_4 a1 = some r) :
  Calls Try.prog 44 #[.agg #[.slice A0_0 l0_0.length c0_0, .int .i64 a0_1, .string a0_2, .slice A0_3 l0_3.length c0_3, .int .i64 a0_4], .int .i64 a1] w fun e w' => e = .returned (.int .i64 r) ∧ Below w.heap.size w w' := by
 have hu71 := Try.underlying71
 have hu49 := Try.underlying49
 have HR0_0 := Aside0.mk hr0_0
 have HC0_0 := Aside0.mk hc0_0
 clear hr0_0 hc0_0
 have HR0_3 := Aside0.mk hr0_3
 have HC0_3 := Aside0.mk hc0_3
 clear hr0_3 hc0_3
 have HB := Aside0.mk (Below.refl w.heap.size w)
 have H : ((laws_szLog.f k l0_0 a0_1 a0_2 a1).bind fun t602 => (if t602 < 0 then (some (-1)) else ((laws_szByteS.f l0_3 t602).bind fun t603 => (if t603 < 0 then (some (-1)) else (some t603))))) = some r := h
 clear h
 replace H := bi_ H; obtain ⟨t602, A3, H⟩ := H
 replace H := itd_ H; obtain ⟨c4b0, H⟩ | ⟨c4b0, H⟩ := H
 ·obtain rfl := Option.some.inj H
  go_enter Try.func44, Try.ntmps44
  go_wp2_with (first | ((with_reducible refine gd_ 2 ?_); refine bx_ 2 71 #[.slice A0_0 l0_0.length c0_0, .int .i64 a0_1, .string a0_2, .slice A0_3 l0_3.length c0_3, .int .i64 a0_4] ?_; intro gb601 hg w5 hbox hb; have BK601 := Aside0.mk hbox; have GW601 := gg_ hg HB; have GE601 := GW601; replace HB := ss_ HB hb; clear hb hbox hg; have hz6 := cz5_ BK601) | ((with_reducible refine gq_ 23 8 ?_); refine gc_ 8 Try.func23 (laws_szLog.calls k _ _ l0_0 a0_1 a0_2 a1 t602 _ (cb_ HR0_0 HB) HC0_0.out A3.out) ?_; rintro e w7 ⟨rfl, hb⟩; refine ⟨_, rfl, ?_⟩; replace BK601 := kl_ BK601 hb; replace HB := ss_ HB hb; clear hb))
  go_ret
  exact ⟨e2_, bw_ HB⟩
 ·replace H := bi_ H; obtain ⟨t603, A8, H⟩ := H
  replace H := itd_ H; obtain ⟨c9b0, H⟩ | ⟨c9b0, H⟩ := H
  ·obtain rfl := Option.some.inj H
   go_enter Try.func44, Try.ntmps44
   go_wp2_with (first | ((with_reducible refine gd_ 2 ?_); refine bx_ 2 71 #[.slice A0_0 l0_0.length c0_0, .int .i64 a0_1, .string a0_2, .slice A0_3 l0_3.length c0_3, .int .i64 a0_4] ?_; intro gb601 hg w10 hbox hb; have BK601 := Aside0.mk hbox; have GW601 := gg_ hg HB; have GE601 := GW601; replace HB := ss_ HB hb; clear hb hbox hg; have hz11 := cz5_ BK601) | ((with_reducible refine gq_ 23 8 ?_); refine gc_ 8 Try.func23 (laws_szLog.calls k _ _ l0_0 a0_1 a0_2 a1 t602 _ (cb_ HR0_0 HB) HC0_0.out A3.out) ?_; rintro e w12 ⟨rfl, hb⟩; refine ⟨_, rfl, ?_⟩; replace BK601 := kl_ BK601 hb; replace HB := ss_ HB hb; clear hb; have hz13 := cz5_ BK601) | ((with_reducible refine gq_ 86 14 ?_); refine gc_ 14 Try.func86 (laws_szByteS.calls _ _ l0_3 t602 t603 _ (cb_ HR0_3 HB) HC0_3.out A8.out) ?_; rintro e w' ⟨rfl, ⟨nd, rfl⟩⟩; refine ⟨_, rfl, ?_⟩))
   go_ret
   exact ⟨e2_, bw_ HB⟩
  ·obtain rfl := Option.some.inj H
   go_enter Try.func44, Try.ntmps44
   go_wp2_with (first | ((with_reducible refine gd_ 2 ?_); refine bx_ 2 71 #[.slice A0_0 l0_0.length c0_0, .int .i64 a0_1, .string a0_2, .slice A0_3 l0_3.length c0_3, .int .i64 a0_4] ?_; intro gb601 hg w14 hbox hb; have BK601 := Aside0.mk hbox; have GW601 := gg_ hg HB; have GE601 := GW601; replace HB := ss_ HB hb; clear hb hbox hg; have hz15 := cz5_ BK601) | ((with_reducible refine gq_ 23 8 ?_); refine gc_ 8 Try.func23 (laws_szLog.calls k _ _ l0_0 a0_1 a0_2 a1 t602 _ (cb_ HR0_0 HB) HC0_0.out A3.out) ?_; rintro e w16 ⟨rfl, hb⟩; refine ⟨_, rfl, ?_⟩; replace BK601 := kl_ BK601 hb; replace HB := ss_ HB hb; clear hb; have hz17 := cz5_ BK601) | ((with_reducible refine gq_ 86 14 ?_); refine gc_ 14 Try.func86 (laws_szByteS.calls _ _ l0_3 t602 t603 _ (cb_ HR0_3 HB) HC0_3.out A8.out) ?_; rintro e w' ⟨rfl, ⟨nd, rfl⟩⟩; refine ⟨_, rfl, ?_⟩))
   go_ret
   exact ⟨e2_, bw_ HB⟩
end Go.Proofs.Ytjnnglphdaemaaa.Q
end

section
-- Written by a program of this session (wip/tools/pp.sh) over the print of the kit.
namespace Go.Proofs.Ytjnnglphdaemaaa.Q
open Go.RowKit Go.Proofs.YtjnnglphdaemaaaW.PrintWords Go.Proofs.YtjnnglphdaemaaaW.PrintLast Go.Proofs.YtjnnglphdaemaaaW.PrintMore
attribute [local go_sem] max2_int min2_int max_two min_two max_three min_three max_four min_four   -- for this text's walks alone
set_option linter.unusedVariables false
set_option linter.unusedSimpArgs false
def laws_toStore.f (k : Nat) (l0_0 : List ByteArray) (a0_1 : Int) (a0_2 : ByteArray) (l0_3 : List Int) (a0_4 : Int) : Option (List ByteArray × Int × ByteArray × List Int × Int) := (laws_toLog.f k l0_0 a0_1 a0_2).bind fun bt604 => ((laws_toByteS.f k l0_3).bind fun t609 => (some (bt604.1, bt604.2.1, bt604.2.2, t609, a0_4)))
theorem laws_toStore.mono : ∀ a0 a1 a2 a3 a4 k, LeO (laws_toStore.f k a0 a1 a2 a3 a4) (laws_toStore.f (k + 1) a0 a1 a2 a3 a4) := by
 intro a0 a1 a2 a3 a4 k
 unfold laws_toStore.f
 repeat' (with_reducible first | exact LeO.refl _ | exact LeO.none _ | apply laws_toByteS.mono | apply laws_toLog.mono | apply LeO.ite | refine LeO.bind ?_ fun _ => ?_)
set_option maxHeartbeats 8000000 in
set_option maxRecDepth 100000 in
theorem laws_toStore.calls (k : Nat) (A0_0 : Option Addr) (c0_0 : Nat) (l0_0 : List ByteArray) (a0_1 : Int) (a0_2 : ByteArray) (A0_3 : Option Addr) (c0_3 : Nat) (l0_3 : List Int) (a0_4 : Int) (r1 : List ByteArray) (r2 : Int) (r3 : ByteArray) (r4 : List Int) (r5 : Int) (w : World) (hr0_0 : Kd.C Kd.string w A0_0 l0_0.length l0_0) (hc0_0 : l0_0.length ≤ c0_0) (hr0_3 : Kd.C (Kd.int .u8) w A0_3 l0_3.length l0_3) (hc0_3 : l0_3.length ≤ c0_3) (h : laws_toStore.f k l0_0 a0_1 a0_2 l0_3 a0_4 = some (r1, r2, r3, r4, r5)) :
  Calls Try.prog 46 #[.agg #[.slice A0_0 l0_0.length c0_0, .int .i64 a0_1, .string a0_2, .slice A0_3 l0_3.length c0_3, .int .i64 a0_4]] w fun e w' => ∃ v0_ v3_ : Value, e = .returned (.agg #[v0_, .int .i64 r2, .string r3, v3_, .int .i64 r5]) ∧ Kd.R Kd.string 9 w' w.heap.size (fun _ => True) v0_ r1 ∧ Kd.R (Kd.int .u8) 5 w' w.heap.size (fun _ => True) v3_ r4 ∧ Below w.heap.size w w' := by
 have hu71 := Try.underlying71
 have hu37 := Try.underlying37
 have hu49 := Try.underlying49
 have hu31 := Try.underlying31
 have HR0_0 := Aside0.mk hr0_0
 have HC0_0 := Aside0.mk hc0_0
 clear hr0_0 hc0_0
 have HR0_3 := Aside0.mk hr0_3
 have HC0_3 := Aside0.mk hc0_3
 clear hr0_3 hc0_3
 have HB := Aside0.mk (Below.refl w.heap.size w)
 have H : ((laws_toLog.f k l0_0 a0_1 a0_2).bind fun bt604 => ((laws_toByteS.f k l0_3).bind fun t609 => (some (bt604.1, bt604.2.1, bt604.2.2, t609, a0_4)))) = some (r1, r2, r3, r4, r5) := h
 clear h
 replace H := bi_ H; obtain ⟨⟨t604, t607, t608⟩, A2, H⟩ := H
 dsimp only at H
 replace H := bi_ H; obtain ⟨t609, A3, H⟩ := H
 replace H := so5_ H; obtain ⟨rfl, rfl, rfl, rfl, rfl⟩ := H
 go_enter Try.func46, Try.ntmps46
 go_wp2_with (first | ((with_reducible refine gd_ 1 ?_); refine bx_ 1 71 #[.slice A0_0 l0_0.length c0_0, .int .i64 a0_1, .string a0_2, .slice A0_3 l0_3.length c0_3, .int .i64 a0_4] ?_; intro gb601 hg w4 hbox hb; have BK601 := Aside0.mk hbox; have GW601 := gg_ hg HB; have GE601 := GW601; replace HB := ss_ HB hb; clear hb hbox hg) | ((with_reducible refine gd_ 2 ?_); refine bx_ 2 37 #[.slice none 0 0, .int .i64 0, .string (⟨#[]⟩ : ByteArray), .slice none 0 0, .int .i64 0] ?_; intro gb602 hg w5 hbox hb; have BK602 := Aside0.mk hbox; have GW602 := gg_ hg HB; have GE602 := GW602; replace HB := ss_ HB hb; have NB601_602 := nla_ hg BK601; have NB602_601 := nga_ hg BK601; replace BK601 := kl_ BK601 hb; clear hb hbox hg) | ((with_reducible refine gd_ 3 ?_); refine bx_ 3 37 #[.slice none 0 0, .int .i64 0, .string (⟨#[]⟩ : ByteArray), .slice none 0 0, .int .i64 0] ?_; intro gb603 hg w6 hbox hb; have BK603 := Aside0.mk hbox; have GW603 := gg_ hg HB; have GE603 := GW603; replace HB := ss_ HB hb; have NB601_603 := nla_ hg BK601; have NB603_601 := nga_ hg BK601; replace BK601 := kl_ BK601 hb; have NB602_603 := Aside0.mk ((by rw [hg]; exact Nat.ne_of_lt (blk_lt (kb_ BK602.out)) : gb602 ≠ gb603)); have NB603_602 := Aside0.mk ((by rw [hg]; exact Nat.ne_of_gt (blk_lt (kb_ BK602.out)) : gb603 ≠ gb602)); replace BK602 := kl_ BK602 hb; clear hb hbox hg; have hnb7 := NB601_602.out; have hnc7 := NB602_601.out; have hnb8 := NB601_603.out; have hnc8 := NB603_601.out; have hz9 := cz5_ BK601) | ((with_reducible refine gq_ 27 6 ?_); refine gc_ 6 Try.func27 (laws_toLog.calls k _ _ l0_0 a0_1 a0_2 t604 t607 t608 _ (cb_ HR0_0 HB) HC0_0.out A2.out) ?_; rintro e w10 ⟨v605, rfl, ho0, hb⟩; refine ⟨_, rfl, ?_⟩; have HO606 := Aside0.mk (Kd.R_lower ho0 (sz_ HB)); replace BK601 := kl_ BK601 hb; replace BK602 := kl_ BK602 hb; replace BK603 := kl_ BK603 hb; replace HB := ss_ HB hb; clear hb ho0; obtain ⟨Ao11, co11, eo11⟩ := Kd.R_slice HO606.out; subst eo11; have hnb12 := NB603_602.out; have hnc12 := NB602_603.out; have hz13 := cz5_ BK603; have hz14 := cz5_ BK601) | ((with_reducible refine gq_ 56 10 ?_); refine gc_ 10 Try.func56 (laws_toByteS.calls k _ _ l0_3 t609 _ (Kd.C_below HR0_3.out (bw_ HB)) HC0_3.out A3.out) ?_; rintro e w15 ⟨v610, rfl, ho0, hb⟩; refine ⟨_, rfl, ?_⟩; replace HO606 := rbf_ HO606 BK603 hb; have HO611 := Aside0.mk (Kd.R_lower ho0 (sz_ HB)); replace BK601 := kp_ BK601 hb; replace BK602 := kp_ BK602 hb; replace BK603 := kp_ BK603 hb; replace HB := ss_ HB hb; clear hb ho0; obtain ⟨Ao16, co16, eo16⟩ := Kd.R_slice HO611.out; subst eo16; have hz17 := cz5_ BK603; have hz18 := cz5_ BK601; have hz19 := cz5_ BK602))
 refine bodyPost_ret (results_cell_row rfl _ _ gb602 37 #[.slice Ao11 t604.length co11, .int .i64 t607, .string t608, .slice Ao16 t609.length co16, .int .i64 a0_4] (0, 0) _ rfl (by exact kq_ BK602) Try.underlying37 rfl (by kernel_rfl)) rfl ?_
 exact ⟨_, _, e2_, by (with_reducible repeat (first | apply Kd.R_alloc | apply Kd.R_drewN | apply Kd.R_drew)); exact Kd.R_mono (Kd.R_far (p := ⟨gb602, 4, none⟩) (Kd.R_far (p := ⟨gb602, 3, none⟩) (Kd.R_far (p := ⟨gb602, 2, none⟩) (Kd.R_far (p := ⟨gb602, 1, none⟩) (Kd.R_far (p := ⟨gb602, 0, none⟩) (Kd.R_far (p := ⟨gb603, 4, none⟩) (Kd.R_far (p := ⟨gb603, 3, none⟩) (Kd.R_types (Kd.R_types HO606.out BK603.out (by decide)) BK602.out (by decide)) (fun _ hk => hk.1.2) (.slice Ao16 t609.length co16)) (fun _ hk => hk.1.2) (.int .i64 a0_4)) (fun _ hk => hk.2) (.slice Ao11 t604.length co11)) (fun _ hk => hk.2) (.int .i64 t607)) (fun _ hk => hk.2) (.string t608)) (fun _ hk => hk.2) (.slice Ao16 t609.length co16)) (fun _ hk => hk.2) (.int .i64 a0_4)) (fun _ hk => trivial), by (with_reducible repeat (first | apply Kd.R_alloc | apply Kd.R_drewN | apply Kd.R_drew)); exact Kd.R_mono (Kd.R_far (p := ⟨gb602, 4, none⟩) (Kd.R_far (p := ⟨gb602, 3, none⟩) (Kd.R_far (p := ⟨gb602, 2, none⟩) (Kd.R_far (p := ⟨gb602, 1, none⟩) (Kd.R_far (p := ⟨gb602, 0, none⟩) (Kd.R_far (p := ⟨gb603, 4, none⟩) (Kd.R_far (p := ⟨gb603, 3, none⟩) (Kd.R_types (Kd.R_types HO611.out BK603.out (by decide)) BK602.out (by decide)) (fun _ hk => hk.1.2) (.slice Ao16 t609.length co16)) (fun _ hk => hk.1.2) (.int .i64 a0_4)) (fun _ hk => hk.2) (.slice Ao11 t604.length co11)) (fun _ hk => hk.2) (.int .i64 t607)) (fun _ hk => hk.2) (.string t608)) (fun _ hk => hk.2) (.slice Ao16 t609.length co16)) (fun _ hk => hk.2) (.int .i64 a0_4)) (fun _ hk => trivial), bw_ HB⟩
end Go.Proofs.Ytjnnglphdaemaaa.Q
end

section
/- What the laws' own helpers do with stores: the weight, the copy. -/
namespace Go.Proofs.Ytjnnglphdaemaaa.Q
open Go.RowKit Go.Proofs.Ytjnnglphdaemaaa.B Go.Proofs.YtjnnglphdaemaaaW.PrintWords
set_option linter.unusedVariables false

theorem szStore_ev (l : List ByteArray) (n : Int) (s : ByteArray) (b : List Int) (u : Int) (left : Int) (h0 : 0 ≤ left) (h1 : left ≤ 1048576) (hl : l.length ≤ 9223372036854775807) (hg : ∀ x ∈ l, x.size ≤ 9223372036854775807) (hs : s.size ≤ 9223372036854775807) (hb : b.length ≤ 9223372036854775807) :
    ∃ r, Ev (fun k => laws_szStore.f k l n s b u left) r ∧ (r < 0 ∨ 0 ≤ r ∧ r + l.length + total l + s.size + b.length = left) := by
  obtain ⟨a, ha, hc⟩ := szLog_ev l n s left h0 h1 hl hg hs
  unfold laws_szStore.f
  rcases hc with hc | ⟨hc, hc1⟩
  · exact ⟨-1, Ev.bind ha (Ev.pos hc (Ev.now _)), .inl (by omega)⟩
  · have ht := total_nonneg l
    obtain ⟨q, hq, hd⟩ := szByteS_eq b a hc (by omega) hb
    rcases hd with hd | ⟨hd, hd1⟩
    · exact ⟨-1, Ev.bind ha (Ev.neg (by omega) (Ev.bind (Ev.const hq) (Ev.pos hd (Ev.now _)))), .inl (by omega)⟩
    · exact ⟨q, Ev.bind ha (Ev.neg (by omega) (Ev.bind (Ev.const hq) (Ev.neg (by omega) (Ev.now _)))), .inr ⟨hd, by omega⟩⟩
theorem toStore_ev (l : List ByteArray) (n : Int) (s : ByteArray) (b : List Int) (u : Int) (hl : l.length ≤ 1048576) (hb : b.length ≤ 1048576) : Ev (fun k => laws_toStore.f k l n s b u) (l, n, s, b, u) := by
  unfold laws_toStore.f
  exact Ev.bind (toLog_ev l n s hl) (Ev.bind (toByteS_ev b hb) (Ev.now _))
end Go.Proofs.Ytjnnglphdaemaaa.Q
end

section
-- Written by a program of this session (wip/tools/pp.sh) over the print of the kit.
namespace Go.Proofs.Ytjnnglphdaemaaa.Q
open Go.RowKit Go.Proofs.YtjnnglphdaemaaaW.PrintWords Go.Proofs.YtjnnglphdaemaaaW.PrintLast Go.Proofs.YtjnnglphdaemaaaW.PrintMore
attribute [local go_sem] max2_int min2_int max_two min_two max_three min_three max_four min_four   -- for this text's walks alone
set_option linter.unusedVariables false
set_option linter.unusedSimpArgs false
def laws_markText.l0 : Nat → Int → ByteArray → Option (ByteArray)
 | 0, _, _ => none
 | k + 1, x0, x3 => if x0 > 0 then ((some (([(wrap64 (48 + (Int.tmod x0 10))) % 256] : List Int) : List Int)).bind fun y601 => (if (strOfNums y601).size + x3.size ≤ 9223372036854775807 then (laws_markText.l0 k (wrap64 (Int.tdiv x0 10)) ((strOfNums y601) ++ x3)) else (none))) else (if 1 + x3.size ≤ 9223372036854775807 then (some ((⟨#[109]⟩ : ByteArray) ++ x3)) else (none))
def laws_markText.f (k : Nat) (a0 : Int) : Option (ByteArray) := if a0 ≤ 0 then (some (⟨#[109, 48]⟩ : ByteArray)) else (laws_markText.l0 k a0 (⟨#[]⟩ : ByteArray))
theorem laws_markText.mono_l : ∀ k, (∀ y0 y1, LeO (laws_markText.l0 k y0 y1) (laws_markText.l0 (k + 1) y0 y1))
 | 0 => fun _ _ r h => by simp [laws_markText.l0] at h
 | k + 1 => by
  have ih0 := laws_markText.mono_l k
  ·intro y0 y1
   unfold laws_markText.l0
   repeat' (with_reducible first | exact LeO.refl _ | exact LeO.none _ | apply ih0 | apply LeO.ite | refine LeO.bind ?_ fun _ => ?_)
theorem laws_markText.mono : ∀ a0 k, LeO (laws_markText.f k a0) (laws_markText.f (k + 1) a0) := by
 intro a0 k
 have ih0 := laws_markText.mono_l k
 unfold laws_markText.f
 repeat' (with_reducible first | exact LeO.refl _ | exact LeO.none _ | apply ih0 | apply LeO.ite | refine LeO.bind ?_ fun _ => ?_)
set_option maxHeartbeats 8000000 in
set_option maxRecDepth 100000 in
theorem laws_markText.calls (k : Nat) (a0 : Int) (r : ByteArray) (w : World) (h : laws_markText.f k a0 = some r) :
  Calls Try.prog 82 #[.int .i64 a0] w fun e w' => e = .returned (.string r) ∧ Below w.heap.size w w' := by
 have HB := Aside0.mk (Below.refl w.heap.size w)
 have H : (if a0 ≤ 0 then (some (⟨#[109, 48]⟩ : ByteArray)) else (laws_markText.l0 k a0 (⟨#[]⟩ : ByteArray))) = some r := h
 clear h
 replace H := itd_ H; obtain ⟨c2b0, H⟩ | ⟨c2b0, H⟩ := H
 ·obtain rfl := Option.some.inj H
  go_enter Try.func82, Try.ntmps82
  go_wp2
  go_ret
  exact ⟨e2_, bw_ HB⟩
 ·have H' := Aside0.mk H
  clear H
  go_enter Try.func82, Try.ntmps82
  go_wp2
  go_loopg [0, 3] k (fun kq v0 v3 w' => ∃ (x0_1 : Int) (x3_1 : ByteArray), v0 = .int .i64 x0_1 ∧ v3 = .string x3_1 ∧ Aside0 (laws_markText.l0 kq x0_1 x3_1 = some r) ∧ Aside0 (kq ≤ k) ∧ Aside0 (Below w.heap.size w w'))
  case atStart => exact ⟨(a0), ((⟨#[]⟩ : ByteArray)), e1_, e1_, H', ⟨Nat.le_refl _⟩, ⟨bw_ HB⟩⟩
  case round =>
   clear H'
   try clear c2b0
   obtain ⟨x0_1, x3_1, rfl, rfl, HA, HK1, HB⟩ := hrel
   cases gk with
   | zero => exact absurd HA.out (by simp [laws_markText.l0])
   | succ k1 =>
    have H := HA.out
    clear HA
    simp only [laws_markText.l0] at H
    replace H := it_ H; obtain ⟨c3, H⟩ | ⟨c3, H⟩ := H
    ·have c3b0 : decide (0 < x0_1) = true := decide_eq_true c3
     clear c3
     obtain ⟨y601, Ny601, H⟩ := sb_ (([(wrap64 (48 + (Int.tmod x0_1 10))) % 256] : List Int)) H
     replace H := ip_ H; obtain ⟨c4, H⟩ := H
     have c4b0 := eq_true c4
     have c4b1 := decide_eq_true c4
     try have c4b2 : (9223372036854775807 < (strOfNums y601).size + x3_1.size) = False := eq_false (Nat.not_lt.2 c4)
     have H' := Aside0.mk H
     clear H
     go_wp2_with (first | ((with_reducible refine gd_ 12 ?_); refine rl_ (Kd.int .u8) 5 12 ([(wrap64 (48 + (Int.tmod x0_1 10))) % 256] : List Int) [.int .u8 ((wrap64 (48 + (Int.tmod x0_1 10))) % 256)] ?_; intro v602 w5 ho6 hb hg_ hnew_; clear hg_ hnew_; (first | rw [← Ny601.out] at ho6 | (simp only [Int.reduceToNat] at ho6; rw [← Ny601.out] at ho6)); have HO603 := Aside0.mk (Kd.R_lower ho6 (sz_ HB)); replace HB := ss_ HB hb; clear hb ho6; have hcv7 := own_string (P := Try.prog) Try.underlying22 Try.underlying5 Try.underlying9 (Kd.own_of_R HO603.out)))
     go_roundg k1
     case measure => have := HK1.out; omega
     case rel => exact ⟨(wrap64 (Int.tdiv x0_1 10)), ((strOfNums y601) ++ x3_1), e1_, e1_, H', ⟨by have := HK1.out; omega⟩, ⟨bw_ HB⟩⟩
    ·have c3b0 : decide (0 < x0_1) = false := decide_eq_false c3
     clear c3
     replace H := ip_ H; obtain ⟨c8, H⟩ := H
     have c8b0 := eq_true c8
     have c8b1 := decide_eq_true c8
     try have c8b2 : (9223372036854775807 < 1 + x3_1.size) = False := eq_false (Nat.not_lt.2 c8)
     obtain rfl := Option.some.inj H
     go_wp2
     go_ret
     exact ⟨e2_, bw_ HB⟩
end Go.Proofs.Ytjnnglphdaemaaa.Q
end

section
-- Written by a program of this session (wip/tools/pp.sh) over the print of the kit.
namespace Go.Proofs.Ytjnnglphdaemaaa.Q
open Go.RowKit Go.Proofs.YtjnnglphdaemaaaW.PrintWords Go.Proofs.YtjnnglphdaemaaaW.PrintLast Go.Proofs.YtjnnglphdaemaaaW.PrintMore
attribute [local go_sem] max2_int min2_int max_two min_two max_three min_three max_four min_four   -- for this text's walks alone
set_option linter.unusedVariables false
set_option linter.unusedSimpArgs false
def laws_markStringS.l0 : Nat → List ByteArray → Int → Int → Option (Int × List ByteArray)
 | 0, _, _, _ => none
 | k + 1, x0, x1, x5 => if x5 < (x0.length : Int) then ((laws_markText.f k x1).bind fun t601 => (if 0 ≤ x5 then (laws_markStringS.l0 k (x0.set (x5 : Int).toNat t601) (wrap64 (x1 + 1)) (wrap64 (x5 + 1))) else (none))) else (some (x1, x0))
def laws_markStringS.f (k : Nat) (l0 : List ByteArray) (a1 : Int) : Option (Int × List ByteArray) := laws_markStringS.l0 k l0 a1 0
theorem laws_markStringS.mono_l : ∀ k, (∀ y0 y1 y2, LeO (laws_markStringS.l0 k y0 y1 y2) (laws_markStringS.l0 (k + 1) y0 y1 y2))
 | 0 => fun _ _ _ r h => by simp [laws_markStringS.l0] at h
 | k + 1 => by
  have ih0 := laws_markStringS.mono_l k
  ·intro y0 y1 y2
   unfold laws_markStringS.l0
   repeat' (with_reducible first | exact LeO.refl _ | exact LeO.none _ | apply ih0 | apply laws_markText.mono | apply LeO.ite | refine LeO.bind ?_ fun _ => ?_)
theorem laws_markStringS.mono : ∀ a0 a1 k, LeO (laws_markStringS.f k a0 a1) (laws_markStringS.f (k + 1) a0 a1) := by
 intro a0 a1 k
 have ih0 := laws_markStringS.mono_l k
 unfold laws_markStringS.f
 repeat' (with_reducible first | exact LeO.refl _ | exact LeO.none _ | apply ih0 | apply laws_markText.mono | apply LeO.ite | refine LeO.bind ?_ fun _ => ?_)
set_option maxHeartbeats 8000000 in
set_option maxRecDepth 100000 in
theorem laws_markStringS.calls (k : Nat) (P0_ : Nat → Prop) (u9000_ : Value) (l0 : List ByteArray) (a1 : Int) (r1 : Int) (r2 : List ByteArray) (w0 w : World) (hB : Below w0.heap.size w0 w) (ho0 : Kd.R Kd.string 9 w w0.heap.size P0_ u9000_ l0) (h : laws_markStringS.f k l0 a1 = some (r1, r2)) :
  Calls Try.prog 36 #[u9000_, .int .i64 a1] w fun e w' => e = .returned (.int .i64 r1) ∧ Kd.R Kd.string 9 w' w0.heap.size (fun k_ => (P0_ k_ ∨ w.heap.size ≤ k_)) u9000_ r2 ∧ Below w0.heap.size w0 w' ∧ Kept w w' (fun k_ => P0_ k_) := by
 have HO0 := Aside0.mk (show Kd.R Kd.string 9 w w0.heap.size (fun k_ => (P0_ k_ ∨ w.heap.size ≤ k_)) u9000_ l0 from Kd.R_mono ho0 (fun k_ hk => (.inl hk)))
 have HK := Aside0.mk (Kept.refl w (fun k_ => P0_ k_))
 have HW0 := Aside0.mk hB.size
 have HB := Aside0.mk hB
 clear hB
 have H : (laws_markStringS.l0 k l0 a1 0) = some (r1, r2) := h
 clear h
 have H' := Aside0.mk H
 clear H
 go_enter Try.func36, Try.ntmps36
 go_wp2
 go_loopg [1, 5] k (fun kq v1 v5 w' => ∃ (x0_1 : List ByteArray) (x1_1 : Int) (x5_1 : Int), v1 = .int .i64 x1_1 ∧ v5 = .int .i64 x5_1 ∧ Aside0 (laws_markStringS.l0 kq x0_1 x1_1 x5_1 = some (r1, r2)) ∧ Aside0 (kq ≤ k) ∧ Aside0 (Kd.R Kd.string 9 w' w0.heap.size (fun k_ => (P0_ k_ ∨ w.heap.size ≤ k_)) u9000_ x0_1) ∧ Aside0 (Kept w w' (fun k_ => P0_ k_)) ∧ Aside0 (Below w0.heap.size w0 w'))
 case atStart => exact ⟨(l0), (a1), (0), e1_, e1_, H', ⟨Nat.le_refl _⟩, ⟨kr_ HO0.out⟩, ⟨by repeat (first | (with_reducible first | exact HK.out | apply Kept.alloc | apply Kept.drewN | apply Kept.drew) | exact HK.out)⟩, ⟨bw_ HB⟩⟩
 case round =>
  clear H'
  obtain ⟨x0_1, x1_1, x5_1, rfl, rfl, HA, HK1, HO_0, HK, HB⟩ := hrel
  cases gk with
  | zero => exact absurd HA.out (by simp [laws_markStringS.l0])
  | succ k1 =>
   have H := HA.out
   clear HA
   simp only [laws_markStringS.l0] at H
   replace H := itd_ H; obtain ⟨c3b0, H⟩ | ⟨c3b0, H⟩ := H
   ·replace H := bi_ H; obtain ⟨t601, A4, H⟩ := H
    replace H := ipd_ H; obtain ⟨c5b0, H⟩ := H
    obtain ⟨y602, hy602⟩ : ∃ y_ : List ByteArray, y_ = (x0_1.set (x5_1 : Int).toNat t601) := ⟨_, rfl⟩
    replace H : (laws_markStringS.l0 k1 y602 (wrap64 (x1_1 + 1)) (wrap64 (x5_1 + 1))) = some (r1, r2) := yh_ hy602 H
    have Ny602 := Aside0.mk hy602
    clear hy602
    have H' := Aside0.mk H
    clear H
    obtain ⟨Ao7, co7, eo7⟩ := Kd.R_slice HO_0.out
    subst eo7
    go_wp2_with (first | ((with_reducible refine gq_ 82 15 ?_); refine gc_ 15 Try.func82 (laws_markText.calls k1 x1_1 t601 _ A4.out) ?_; rintro e w8 ⟨rfl, hb⟩; refine ⟨_, rfl, ?_⟩; replace HO_0 := rb_ HO_0 hb; replace HK := Aside0.mk (Kept.below (S := (fun k_ => P0_ k_)) (by repeat (first | (with_reducible first | exact HK.out | apply Kept.alloc | apply Kept.drewN | apply Kept.drew) | exact HK.out)) hb); replace HB := ss_ HB hb; clear hb; have p6 : 0 ≤ (x5_1 : Int) := of_decide_eq_true as_; have q6 : (x5_1 : Int) < ((x0_1.length : Int) : Int) := of_decide_eq_true as_; obtain ⟨go6, co6, eo6, gb6, gl6, cl6, HG6⟩ := Kd.R_form HO_0.out (by omega); (first | cases eo6 | (injection eo6 with ea_ en_ ec_; (first | subst ea_ | (injection ea_ with ea_; subst ea_)); subst ec_; clear en_)); have GB6 := Aside0.mk gb6; have GG6 := Aside0.mk HG6; clear gb6 gl6 HG6; have HMgo6 := Aside0.mk (show (P0_ go6 ∨ w.heap.size ≤ go6) from (HO_0.out.1 _ rfl)); obtain ⟨hx6_0, hf6_0⟩ := Kd.R_celln (⟨#[]⟩ : ByteArray) HO_0.out (x5_1 : Int) p6 q6; replace p6 := eq_true p6; replace q6 := eq_true q6; obtain ⟨hy9_, hz9_⟩ := Kd.R_celln (⟨#[]⟩ : ByteArray) HO_0.out (x5_1 : Int) (of_decide_eq_true as_) (of_decide_eq_true as_); have HP9 := Kd.R_putg HO_0.out (x5_1 : Int) t601) | ((with_reducible refine gate_store (t := 9) (p := 16) rfl ?_); refine store_event (t := 9) (p := 16) (v := ?vo_w10) (w1 := (w8.setCell ⟨go6, (x5_1 : Int).toNat, none⟩ (.string t601))) ?hg ?ho ?hn ?hr ?_; (case ho => rfl); (case hg => rfl); (case hn => rfl); (case hr => first | (go_simp; done) | (go_simp; rfl)); intro w10 hw; have hg : w8.grownBy w10 (some go6) := (by rw [hw]; exact HP9.2); have hp_ : Kd.R Kd.string 9 w10 w0.heap.size (fun k_ => (P0_ k_ ∨ w.heap.size ≤ k_)) (.slice (some ⟨go6, 0, none⟩) x0_1.length co7) y602 := (by rw [hw, Ny602.out]; exact HP9.1); clear HP9; replace HB := Aside0.mk ((by rw [hw]; exact below_set (HB.out) GB6.out : Below w0.heap.size w0 w10)); replace HK := Aside0.mk (Kept.of_grown (S := (fun k_ => P0_ k_)) hg (by repeat (first | (with_reducible first | exact HK.out | apply Kept.alloc | apply Kept.drewN | apply Kept.drew) | exact HK.out)) (fun k_ e_ => (HO_0.out.1 k_ e_))); replace HO_0 := Aside0.mk hp_; clear hg hw hp_))
    go_roundg k1
    case measure => have := HK1.out; omega
    case rel => exact ⟨(y602), (wrap64 (x1_1 + 1)), (wrap64 (x5_1 + 1)), e1_, e1_, H', ⟨by have := HK1.out; omega⟩, ⟨kr_ HO_0.out⟩, ⟨by repeat (first | (with_reducible first | exact HK.out | apply Kept.alloc | apply Kept.drewN | apply Kept.drew) | exact HK.out)⟩, ⟨bw_ HB⟩⟩
   ·replace H := so2_ H; obtain ⟨rfl, rfl⟩ := H
    obtain ⟨Ao11, co11, eo11⟩ := Kd.R_slice HO_0.out
    subst eo11
    go_wp2
    go_ret
    exact ⟨e2_, kr_ HO_0.out, bw_ HB, by repeat (first | (with_reducible first | exact HK.out | apply Kept.alloc | apply Kept.drewN | apply Kept.drew) | exact HK.out)⟩
end Go.Proofs.Ytjnnglphdaemaaa.Q
end

section
/- Marks that the laws' own helpers put into lists of texts. -/
namespace Go.Proofs.Ytjnnglphdaemaaa.Q
open Go.RowKit Go.Proofs.Ytjnnglphdaemaaa.B Go.Proofs.YtjnnglphdaemaaaW.PrintWords
set_option linter.unusedVariables false
set_option linter.unusedSimpArgs false

theorem nums_one (x : Int) : (strOfNums [x]).size = 1 := by simp [strOfNums, ByteArray.size]
theorem markText_l0 : ∀ (n : Nat) (x : Int) (acc : ByteArray), 0 ≤ x → x ≤ n → (acc.size : Int) + x ≤ 4611686018427387910 → ∃ t, Ev (fun k => laws_markText.l0 k x acc) t := by
  intro n
  induction n with
  | zero =>
    intro x acc h0 h1 h2
    refine ⟨_, Ev.step (f := fun _ => some ((⟨#[109]⟩ : ByteArray) ++ acc)) (fun k => ?_) (Ev.now _)⟩
    simp only [laws_markText.l0]
    rw [if_neg (by omega), if_pos (by omega)]
  | succ n ih =>
    intro x acc h0 h1 h2
    by_cases hx : x > 0
    · have hd : Int.tdiv x 10 = x / 10 := Int.tdiv_eq_ediv_of_nonneg h0
      have hsz : ((strOfNums [(wrap64 (48 + (Int.tmod x 10))) % 256]) ++ acc).size = 1 + acc.size := by rw [ByteArray.size_append, nums_one]
      obtain ⟨t, ht⟩ := ih (x / 10) ((strOfNums [(wrap64 (48 + (Int.tmod x 10))) % 256]) ++ acc) (by omega) (by omega) (by rw [hsz]; omega)
      refine ⟨t, Ev.step (fun k => ?_) ht⟩
      simp only [laws_markText.l0]
      rw [if_pos hx]
      simp only [Option.bind_some]
      rw [nums_one, if_pos (by omega), hd, w64 (by omega) (by omega)]
    · refine ⟨_, Ev.step (f := fun _ => some ((⟨#[109]⟩ : ByteArray) ++ acc)) (fun k => ?_) (Ev.now _)⟩
      simp only [laws_markText.l0]
      rw [if_neg hx, if_pos (by omega)]
theorem markText_ev (a : Int) (h : a ≤ 4611686018427387904) : ∃ t, Ev (fun k => laws_markText.f k a) t := by
  unfold laws_markText.f
  by_cases h0 : a ≤ 0
  · exact ⟨_, Ev.pos h0 (Ev.now _)⟩
  · obtain ⟨t, ht⟩ := markText_l0 a.toNat a ⟨#[]⟩ (by omega) (by omega) (by rw [show (ByteArray.mk #[]).size = 0 from rfl]; omega)
    exact ⟨t, Ev.neg h0 ht⟩
/-- A list of texts marked from a on. -/
def Marked (M : List ByteArray) (a : Int) : Prop := ∀ i, i < M.length → ∃ x, M[i]? = some x ∧ Ev (fun k => laws_markText.f k (a + (i : Int))) x
theorem markStringS_ev (l : List ByteArray) (a : Int) (h0 : 0 ≤ a) (h1 : a + l.length ≤ 4611686018427387904) : ∃ M, Ev (fun k => laws_markStringS.f k l a) (a + (l.length : Int), M) ∧ M.length = l.length ∧ Marked M a := by
  have main : ∀ (d i : Nat) (acc : List ByteArray), i + d = l.length → acc.length = l.length → (∀ j, j < i → ∃ x, acc[j]? = some x ∧ Ev (fun k => laws_markText.f k (a + (j : Int))) x) → ∃ M, Ev (fun k => laws_markStringS.l0 k acc (a + (i : Int)) (i : Int)) (a + (l.length : Int), M) ∧ M.length = l.length ∧ Marked M a := by
    intro d
    induction d with
    | zero =>
      intro i acc hi ha ht
      have hil : i = l.length := by omega
      subst hil
      refine ⟨acc, Ev.step (f := fun _ => some (a + (l.length : Int), acc)) (fun k => ?_) (Ev.now _), ha, fun j hj => ht j (by omega)⟩
      simp only [laws_markStringS.l0]
      rw [if_neg (by omega)]
    | succ d ih =>
      intro i acc hi ha ht
      obtain ⟨x, hx⟩ := markText_ev (a + (i : Int)) (by omega)
      obtain ⟨M, hM, hl, hm⟩ := ih (i + 1) (acc.set i x) (by omega) (by simp [ha]) (fun j hj => by
        by_cases he : j = i
        · subst he
          exact ⟨x, by rw [List.getElem?_set_self (by omega)], hx⟩
        · rw [List.getElem?_set_ne (by omega)]
          exact ht j (by omega))
      refine ⟨M, ?_, hl, hm⟩
      refine Ev.step (fun k => by simp only [laws_markStringS.l0]; rfl) ?_
      refine Ev.pos (by omega) (Ev.bind hx (Ev.pos (by omega) ?_))
      rw [nextS (show i < l.length by omega) (by omega), w64 (x := a + (i : Int) + 1) (by omega) (by omega)]
      have e : a + (i : Int) + 1 = a + ((i + 1 : Nat) : Int) := by omega
      rw [e]
      exact hM
  obtain ⟨M, hM, hl, hm⟩ := main l.length 0 l (by omega) rfl (fun j hj => by omega)
  refine ⟨M, Ev.congr (fun k => ?_) hM, hl, hm⟩
  unfold laws_markStringS.f
  congr 1
  omega
end Go.Proofs.Ytjnnglphdaemaaa.Q
end

section
-- Written by a program of this session (wip/tools/pp.sh) over the print of the kit.
namespace Go.Proofs.Ytjnnglphdaemaaa.Q
open Go.RowKit Go.Proofs.YtjnnglphdaemaaaW.PrintWords Go.Proofs.YtjnnglphdaemaaaW.PrintLast Go.Proofs.YtjnnglphdaemaaaW.PrintMore
attribute [local go_sem] max2_int min2_int max_two min_two max_three min_three max_four min_four   -- for this text's walks alone
set_option linter.unusedVariables false
set_option linter.unusedSimpArgs false
def laws_markLog.f (k : Nat) (l0_0 : List ByteArray) (a0_1 : Int) (a0_2 : ByteArray) (a1 : Int) : Option (Int × List ByteArray) := (laws_markStringS.f k l0_0 a1).bind fun bt602 => (some (bt602.1, bt602.2))
theorem laws_markLog.mono : ∀ a0 a1 a2 a3 k, LeO (laws_markLog.f k a0 a1 a2 a3) (laws_markLog.f (k + 1) a0 a1 a2 a3) := by
 intro a0 a1 a2 a3 k
 unfold laws_markLog.f
 repeat' (with_reducible first | exact LeO.refl _ | exact LeO.none _ | apply laws_markStringS.mono | apply LeO.ite | refine LeO.bind ?_ fun _ => ?_)
set_option maxHeartbeats 8000000 in
set_option maxRecDepth 100000 in
theorem laws_markLog.calls (k : Nat) (P0_0_ : Nat → Prop) (u9000_ : Value) (l0_0 : List ByteArray) (a0_1 : Int) (a0_2 : ByteArray) (a1 : Int) (r1 : Int) (r2 : List ByteArray) (w0 w : World) (hB : Below w0.heap.size w0 w) (ho0_0 : Kd.R Kd.string 9 w w0.heap.size P0_0_ u9000_ l0_0) (h : laws_markLog.f k l0_0 a0_1 a0_2 a1 = some (r1, r2)) :
  Calls Try.prog 34 #[.agg #[u9000_, .int .i64 a0_1, .string a0_2], .int .i64 a1] w fun e w' => e = .returned (.int .i64 r1) ∧ Kd.R Kd.string 9 w' w0.heap.size (fun k_ => (P0_0_ k_ ∨ w.heap.size ≤ k_)) u9000_ r2 ∧ Below w0.heap.size w0 w' ∧ Kept w w' (fun k_ => P0_0_ k_) := by
 have hu31 := Try.underlying31
 have HO0_0 := Aside0.mk (show Kd.R Kd.string 9 w w0.heap.size (fun k_ => (P0_0_ k_ ∨ w.heap.size ≤ k_)) u9000_ l0_0 from Kd.R_mono ho0_0 (fun k_ hk => (.inl hk)))
 have HK := Aside0.mk (Kept.refl w (fun k_ => P0_0_ k_))
 have HW0 := Aside0.mk hB.size
 have HB := Aside0.mk hB
 clear hB
 have H : ((laws_markStringS.f k l0_0 a1).bind fun bt602 => (some (bt602.1, bt602.2))) = some (r1, r2) := h
 clear h
 replace H := bi_ H; obtain ⟨⟨t602, t603⟩, A3, H⟩ := H
 dsimp only at H
 replace H := so2_ H; obtain ⟨rfl, rfl⟩ := H
 obtain ⟨Ao4, co4, eo4⟩ := Kd.R_slice HO0_0.out
 subst eo4
 go_enter Try.func34, Try.ntmps34
 go_wp2_with (first | ((with_reducible refine gd_ 2 ?_); refine bx_ 2 31 #[.slice Ao4 l0_0.length co4, .int .i64 a0_1, .string a0_2] ?_; intro gb601 hg w5 hbox hb; replace HO0_0 := rb_ HO0_0 hb; have BK601 := Aside0.mk hbox; have GW601 := Aside0.mk ((by rw [hg]; exact (by first | exact HK.out.1 | exact (show Kept w _ (fun k_ => P0_0_ k_) from by repeat (first | (with_reducible first | exact HK.out | apply Kept.alloc | apply Kept.drewN | apply Kept.drew) | exact HK.out)).1) : w.heap.size ≤ gb601)); replace HK := Aside0.mk (Kept.below (S := (fun k_ => P0_0_ k_)) (by repeat (first | (with_reducible first | exact HK.out | apply Kept.alloc | apply Kept.drewN | apply Kept.drew) | exact HK.out)) hb); have GE601 := gg_ hg HB; replace HB := ss_ HB hb; clear hb hbox hg; have hz6 := cz3_ BK601) | ((with_reducible refine gq_ 36 8 ?_); refine gc_ 8 Try.func36 (laws_markStringS.calls k (fun k_ => some k_ = (.slice Ao4 l0_0.length co4 : Value).ownBlock) (.slice Ao4 l0_0.length co4) l0_0 a1 t602 t603 w0 _ (bw_ HB) (Kd.R_tight rfl HO0_0.out) A3.out) ?_; rintro e w7 ⟨rfl, hy0, hb, hkp⟩; refine ⟨_, rfl, ?_⟩; replace BK601 := Aside0.mk (blk_kept (kb_ BK601.out) hkp (fun hs_ => (fun e_ => (Kd.R_ne HO0_0.out BK601.out (by decide)) e_) hs_)); replace HK := Aside0.mk (Kept.then_ (S := (fun k_ => P0_0_ k_)) (by repeat (first | (with_reducible first | exact HK.out | apply Kept.alloc | apply Kept.drewN | apply Kept.drew | refine Kept.setCell ?_ (.inr GW601.out) _) | exact HK.out)) hkp (fun k_ hs_ => (fun e_ => (HO0_0.out.1 k_ e_.symm)) hs_)); replace HO0_0 := Aside0.mk (Kd.R_reok rfl hy0 (fun k_ e_ => HO0_0.out.1 k_ e_)); replace HB := Aside0.mk hb; clear hb hkp hy0))
 go_ret
 exact ⟨e2_, kr_ HO0_0.out, bw_ HB, by repeat (first | (with_reducible first | exact HK.out | apply Kept.alloc | apply Kept.drewN | apply Kept.drew | refine Kept.setCell ?_ (.inr GW601.out) _) | exact HK.out)⟩
end Go.Proofs.Ytjnnglphdaemaaa.Q
end

section
/- Marks in logs. -/
namespace Go.Proofs.Ytjnnglphdaemaaa.Q
open Go.RowKit Go.Proofs.Ytjnnglphdaemaaa.B Go.Proofs.YtjnnglphdaemaaaW.PrintWords
set_option linter.unusedVariables false

theorem markLog_ev (l : List ByteArray) (n : Int) (s : ByteArray) (a : Int) (h0 : 0 ≤ a) (h1 : a + l.length ≤ 4611686018427387904) : ∃ M, Ev (fun k => laws_markLog.f k l n s a) (a + (l.length : Int), M) ∧ M.length = l.length ∧ Marked M a := by
  obtain ⟨M, hM, hl, hm⟩ := markStringS_ev l a h0 h1
  refine ⟨M, ?_, hl, hm⟩
  unfold laws_markLog.f
  exact Ev.bind hM (Ev.now _)
end Go.Proofs.Ytjnnglphdaemaaa.Q
end

section
-- Written by a program of this session (wip/tools/pp.sh) over the print of the kit.
namespace Go.Proofs.Ytjnnglphdaemaaa.Q
open Go.RowKit Go.Proofs.YtjnnglphdaemaaaW.PrintWords Go.Proofs.YtjnnglphdaemaaaW.PrintLast Go.Proofs.YtjnnglphdaemaaaW.PrintMore
attribute [local go_sem] max2_int min2_int max_two min_two max_three min_three max_four min_four   -- for this text's walks alone
set_option linter.unusedVariables false
set_option linter.unusedSimpArgs false
def laws_markStore.f (k : Nat) (l0_0 : List ByteArray) (a0_1 : Int) (a0_2 : ByteArray) (l0_3 : List Int) (a0_4 : Int) (a1 : Int) : Option (Int × List ByteArray × List Int) := (laws_markLog.f k l0_0 a0_1 a0_2 a1).bind fun bt602 => ((laws_markByteS.f k l0_3 bt602.1).bind fun bt604 => (some (bt604.1, bt602.2, bt604.2)))
theorem laws_markStore.mono : ∀ a0 a1 a2 a3 a4 a5 k, LeO (laws_markStore.f k a0 a1 a2 a3 a4 a5) (laws_markStore.f (k + 1) a0 a1 a2 a3 a4 a5) := by
 intro a0 a1 a2 a3 a4 a5 k
 unfold laws_markStore.f
 repeat' (with_reducible first | exact LeO.refl _ | exact LeO.none _ | apply laws_markByteS.mono | apply laws_markLog.mono | apply LeO.ite | refine LeO.bind ?_ fun _ => ?_)
set_option maxHeartbeats 8000000 in
set_option maxRecDepth 100000 in
theorem laws_markStore.calls (k : Nat) (P0_0_ : Nat → Prop) (u9000_ : Value) (l0_0 : List ByteArray) (a0_1 : Int) (a0_2 : ByteArray) (P0_3_ : Nat → Prop) (u9001_ : Value) (l0_3 : List Int) (a0_4 : Int) (a1 : Int) (r1 : Int) (r2 : List ByteArray) (r3 : List Int) (w0 w : World) (hB : Below w0.heap.size w0 w) (ho0_0 : Kd.R Kd.string 9 w w0.heap.size P0_0_ u9000_ l0_0) (ho0_3 : Kd.R (Kd.int .u8) 5 w w0.heap.size P0_3_ u9001_ l0_3) (h : laws_markStore.f k l0_0 a0_1 a0_2 l0_3 a0_4 a1 = some (r1, r2, r3)) :
  Calls Try.prog 48 #[.agg #[u9000_, .int .i64 a0_1, .string a0_2, u9001_, .int .i64 a0_4], .int .i64 a1] w fun e w' => e = .returned (.int .i64 r1) ∧ Kd.R Kd.string 9 w' w0.heap.size (fun k_ => ((P0_0_ k_ ∨ P0_3_ k_) ∨ w.heap.size ≤ k_)) u9000_ r2 ∧ Kd.R (Kd.int .u8) 5 w' w0.heap.size (fun k_ => ((P0_0_ k_ ∨ P0_3_ k_) ∨ w.heap.size ≤ k_)) u9001_ r3 ∧ Below w0.heap.size w0 w' ∧ Kept w w' (fun k_ => P0_0_ k_ ∨ P0_3_ k_) := by
 have hu37 := Try.underlying37
 have hu31 := Try.underlying31
 have HO0_0 := Aside0.mk (show Kd.R Kd.string 9 w w0.heap.size (fun k_ => ((P0_0_ k_ ∨ P0_3_ k_) ∨ w.heap.size ≤ k_)) u9000_ l0_0 from Kd.R_mono ho0_0 (fun k_ hk => (.inl (.inl hk))))
 have HO0_3 := Aside0.mk (show Kd.R (Kd.int .u8) 5 w w0.heap.size (fun k_ => ((P0_0_ k_ ∨ P0_3_ k_) ∨ w.heap.size ≤ k_)) u9001_ l0_3 from Kd.R_mono ho0_3 (fun k_ hk => (.inl (.inr hk))))
 have HK := Aside0.mk (Kept.refl w (fun k_ => P0_0_ k_ ∨ P0_3_ k_))
 have HW0 := Aside0.mk hB.size
 have HB := Aside0.mk hB
 clear hB
 have H : ((laws_markLog.f k l0_0 a0_1 a0_2 a1).bind fun bt602 => ((laws_markByteS.f k l0_3 bt602.1).bind fun bt604 => (some (bt604.1, bt602.2, bt604.2)))) = some (r1, r2, r3) := h
 clear h
 replace H := bi_ H; obtain ⟨⟨t602, t603⟩, A3, H⟩ := H
 dsimp only at H
 replace H := bi_ H; obtain ⟨⟨t604, t605⟩, A4, H⟩ := H
 dsimp only at H
 replace H := so3_ H; obtain ⟨rfl, rfl, rfl⟩ := H
 obtain ⟨Ao5, co5, eo5⟩ := Kd.R_slice HO0_0.out
 subst eo5
 obtain ⟨Ao6, co6, eo6⟩ := Kd.R_slice HO0_3.out
 subst eo6
 go_enter Try.func48, Try.ntmps48
 go_wp2_with (first | ((with_reducible refine gd_ 2 ?_); refine bx_ 2 37 #[.slice Ao5 l0_0.length co5, .int .i64 a0_1, .string a0_2, .slice Ao6 l0_3.length co6, .int .i64 a0_4] ?_; intro gb601 hg w7 hbox hb; replace HO0_0 := rb_ HO0_0 hb; replace HO0_3 := rb_ HO0_3 hb; have BK601 := Aside0.mk hbox; have GW601 := Aside0.mk ((by rw [hg]; exact (by first | exact HK.out.1 | exact (show Kept w _ (fun k_ => P0_0_ k_ ∨ P0_3_ k_) from by repeat (first | (with_reducible first | exact HK.out | apply Kept.alloc | apply Kept.drewN | apply Kept.drew) | exact HK.out)).1) : w.heap.size ≤ gb601)); replace HK := Aside0.mk (Kept.below (S := (fun k_ => P0_0_ k_ ∨ P0_3_ k_)) (by repeat (first | (with_reducible first | exact HK.out | apply Kept.alloc | apply Kept.drewN | apply Kept.drew) | exact HK.out)) hb); have GE601 := gg_ hg HB; replace HB := ss_ HB hb; clear hb hbox hg; have hz8 := cz5_ BK601) | ((with_reducible refine gq_ 34 8 ?_); refine gc_ 8 Try.func34 (laws_markLog.calls k (fun k_ => some k_ = (.slice Ao5 l0_0.length co5 : Value).ownBlock) (.slice Ao5 l0_0.length co5) l0_0 a0_1 a0_2 a1 t602 t603 w0 _ (bw_ HB) (Kd.R_tight rfl HO0_0.out) A3.out) ?_; rintro e w9 ⟨rfl, hy0, hb, hkp⟩; refine ⟨_, rfl, ?_⟩; replace HO0_3 := Aside0.mk (Kd.R_mono (ok' := fun k_ => ((P0_0_ k_ ∨ P0_3_ k_) ∨ w.heap.size ≤ k_)) (Kd.R_keptB ((Kd.R_apart' HO0_3.out (Kd.R_typed HO0_0.out) (by decide))) hkp (fun k_ hk_ hs_ => (hk_.2) hs_)) (fun k_ hk_ => hk_.1.1)); replace BK601 := Aside0.mk (blk_kept (kb_ BK601.out) hkp (fun hs_ => (fun e_ => (Kd.R_ne HO0_0.out BK601.out (by decide)) e_) hs_)); replace HK := Aside0.mk (Kept.then_ (S := (fun k_ => P0_0_ k_ ∨ P0_3_ k_)) (by repeat (first | (with_reducible first | exact HK.out | apply Kept.alloc | apply Kept.drewN | apply Kept.drew | refine Kept.setCell ?_ (.inr GW601.out) _) | exact HK.out)) hkp (fun k_ hs_ => (fun e_ => (HO0_0.out.1 k_ e_.symm)) hs_)); replace HO0_0 := Aside0.mk (Kd.R_reok rfl hy0 (fun k_ e_ => HO0_0.out.1 k_ e_)); replace HB := Aside0.mk hb; clear hb hkp hy0; have hz10 := cz5_ BK601) | ((with_reducible refine gq_ 58 12 ?_); refine gc_ 12 Try.func58 (laws_markByteS.calls k (fun k_ => some k_ = (.slice Ao6 l0_3.length co6 : Value).ownBlock) (.slice Ao6 l0_3.length co6) l0_3 t602 t604 t605 w0 _ (bw_ HB) (Kd.R_tight rfl HO0_3.out) A4.out) ?_; rintro e w11 ⟨rfl, hy0, hb, hkp⟩; refine ⟨_, rfl, ?_⟩; replace HO0_0 := Aside0.mk (Kd.R_mono (ok' := fun k_ => ((P0_0_ k_ ∨ P0_3_ k_) ∨ w.heap.size ≤ k_)) (Kd.R_keptB ((Kd.R_apart' HO0_0.out (Kd.R_typed HO0_3.out) (by decide))) hkp (fun k_ hk_ hs_ => (hk_.2) hs_)) (fun k_ hk_ => hk_.1.1)); replace BK601 := Aside0.mk (blk_kept (kb_ BK601.out) hkp (fun hs_ => (fun e_ => (Kd.R_ne HO0_3.out BK601.out (by decide)) e_) hs_)); replace HK := Aside0.mk (Kept.then_ (S := (fun k_ => P0_0_ k_ ∨ P0_3_ k_)) (by repeat (first | (with_reducible first | exact HK.out | apply Kept.alloc | apply Kept.drewN | apply Kept.drew | refine Kept.setCell ?_ (.inr GW601.out) _) | exact HK.out)) hkp (fun k_ hs_ => (fun e_ => (HO0_3.out.1 k_ e_.symm)) hs_)); replace HO0_3 := Aside0.mk (Kd.R_reok rfl hy0 (fun k_ e_ => HO0_3.out.1 k_ e_)); replace HB := Aside0.mk hb; clear hb hkp hy0))
 go_ret
 exact ⟨e2_, kr_ HO0_0.out, kr_ HO0_3.out, bw_ HB, by repeat (first | (with_reducible first | exact HK.out | apply Kept.alloc | apply Kept.drewN | apply Kept.drew | refine Kept.setCell ?_ (.inr GW601.out) _) | exact HK.out)⟩
end Go.Proofs.Ytjnnglphdaemaaa.Q
end

section
/- Marks in stores. -/
namespace Go.Proofs.Ytjnnglphdaemaaa.Q
open Go.RowKit Go.Proofs.Ytjnnglphdaemaaa.B Go.Proofs.YtjnnglphdaemaaaW.PrintWords
set_option linter.unusedVariables false

theorem markStore_ev (l : List ByteArray) (n : Int) (s : ByteArray) (b : List Int) (u : Int) (a : Int) (h0 : 0 ≤ a) (h1 : a + l.length + b.length ≤ 4611686018427387904) :
    ∃ M, Ev (fun k => laws_markStore.f k l n s b u a) (a + (l.length : Int) + (b.length : Int), M, markB (a + (l.length : Int)) b.length) ∧ M.length = l.length ∧ Marked M a := by
  obtain ⟨M, hM, hl, hm⟩ := markLog_ev l n s a h0 (by omega)
  refine ⟨M, ?_, hl, hm⟩
  unfold laws_markStore.f
  exact Ev.bind hM (Ev.bind (markByteS_ev b (a + (l.length : Int)) (by omega) (by omega)) (Ev.now _))
end Go.Proofs.Ytjnnglphdaemaaa.Q
end

section
-- Written by a program of this session (wip/tools/pp.sh) over the print of the kit.
namespace Go.Proofs.Ytjnnglphdaemaaa.Q
open Go.RowKit Go.Proofs.YtjnnglphdaemaaaW.PrintWords Go.Proofs.YtjnnglphdaemaaaW.PrintLast Go.Proofs.YtjnnglphdaemaaaW.PrintMore
attribute [local go_sem] max2_int min2_int max_two min_two max_three min_three max_four min_four   -- for this text's walks alone
set_option linter.unusedVariables false
set_option linter.unusedSimpArgs false
def laws_heldStringS.l0 : Nat → List ByteArray → Int → Int → Option (Int)
 | 0, _, _, _ => none
 | k + 1, x0, x1, x5 => if x5 < (x0.length : Int) then (if 0 ≤ x5 then ((laws_markText.f k x1).bind fun t602 => (if (rdOf ByteArray.empty x0 x5).toList = t602.toList then (laws_heldStringS.l0 k x0 (wrap64 (x1 + 1)) (wrap64 (x5 + 1))) else (some (-1)))) else (none)) else (some x1)
def laws_heldStringS.f (k : Nat) (l0 : List ByteArray) (a1 : Int) : Option (Int) := laws_heldStringS.l0 k l0 a1 0
theorem laws_heldStringS.mono_l : ∀ k, (∀ y0 y1 y2, LeO (laws_heldStringS.l0 k y0 y1 y2) (laws_heldStringS.l0 (k + 1) y0 y1 y2))
 | 0 => fun _ _ _ r h => by simp [laws_heldStringS.l0] at h
 | k + 1 => by
  have ih0 := laws_heldStringS.mono_l k
  ·intro y0 y1 y2
   unfold laws_heldStringS.l0
   repeat' (with_reducible first | exact LeO.refl _ | exact LeO.none _ | apply ih0 | apply laws_markText.mono | apply LeO.ite | refine LeO.bind ?_ fun _ => ?_)
theorem laws_heldStringS.mono : ∀ a0 a1 k, LeO (laws_heldStringS.f k a0 a1) (laws_heldStringS.f (k + 1) a0 a1) := by
 intro a0 a1 k
 have ih0 := laws_heldStringS.mono_l k
 unfold laws_heldStringS.f
 repeat' (with_reducible first | exact LeO.refl _ | exact LeO.none _ | apply ih0 | apply laws_markText.mono | apply LeO.ite | refine LeO.bind ?_ fun _ => ?_)
set_option maxHeartbeats 8000000 in
set_option maxRecDepth 100000 in
theorem laws_heldStringS.calls (k : Nat) (A0 : Option Addr) (c0 : Nat) (l0 : List ByteArray) (a1 : Int) (r : Int) (w : World) (hr0 : Kd.C Kd.string w A0 l0.length l0) (hc0 : l0.length ≤ c0) (h : laws_heldStringS.f k l0 a1 = some r) :
  Calls Try.prog 83 #[.slice A0 l0.length c0, .int .i64 a1] w fun e w' => e = .returned (.int .i64 r) ∧ Below w.heap.size w w' := by
 have HR0 := Aside0.mk hr0
 have HC0 := Aside0.mk hc0
 clear hr0 hc0
 have HB := Aside0.mk (Below.refl w.heap.size w)
 have H : (laws_heldStringS.l0 k l0 a1 0) = some r := h
 clear h
 have H' := Aside0.mk H
 clear H
 go_enter Try.func83, Try.ntmps83
 go_wp2
 go_loopg [1, 5] k (fun kq v1 v5 w' => ∃ (x1_1 : Int) (x5_1 : Int), v1 = .int .i64 x1_1 ∧ v5 = .int .i64 x5_1 ∧ Aside0 (laws_heldStringS.l0 kq l0 x1_1 x5_1 = some r) ∧ Aside0 (kq ≤ k) ∧ Aside0 (Below w.heap.size w w'))
 case atStart => exact ⟨(a1), (0), e1_, e1_, H', ⟨Nat.le_refl _⟩, ⟨bw_ HB⟩⟩
 case round =>
  clear H'
  obtain ⟨x1_1, x5_1, rfl, rfl, HA, HK1, HB⟩ := hrel
  cases gk with
  | zero => exact absurd HA.out (by simp [laws_heldStringS.l0])
  | succ k1 =>
   have H := HA.out
   clear HA
   simp only [laws_heldStringS.l0] at H
   replace H := itd_ H; obtain ⟨c3b0, H⟩ | ⟨c3b0, H⟩ := H
   ·replace H := ipd_ H; obtain ⟨c4b0, H⟩ := H
    replace H := bi_ H; obtain ⟨t602, A5, H⟩ := H
    replace H := it_ H; obtain ⟨c6, H⟩ | ⟨c6, H⟩ := H
    ·have c6b0 : ((rdOf ByteArray.empty l0 x5_1).toList == t602.toList) = true := beq_iff_eq.mpr c6
     have c6b1 : ((rdOf ByteArray.empty l0 x5_1).toList != t602.toList) = false := bne_eq_false_iff_eq.mpr c6
     clear c6
     have H' := Aside0.mk H
     clear H
     try go_wp2
     replace HB := Aside0.mk (below_drew1 HB.out)
     have p601 : 0 ≤ (x5_1 : Int) := of_decide_eq_true as_
     have q601 : x5_1 < (l0.length : Int) := of_decide_eq_true as_
     obtain ⟨ad601, e601, hx601_0⟩ := Kd.at_string HR0.out x5_1 p601 q601
     have hw601_0 := hx601_0
     cases e601
     replace hx601_0 := (HB.out.cell (World.block_lt_of_cell? w _ hx601_0)).trans hx601_0
     replace p601 := eq_true p601
     replace q601 := eq_true q601
     refine start_ (n := 7) (S := fun w' => w'.cell? (ad601.add (x5_1).toNat) = some (.string (rdOf ByteArray.empty l0 x5_1))) (ds := []) (lz_ 7 0) (by kernel_rfl) rfl rfl (((HB.out.cell (World.block_lt_of_cell? w _ hw601_0)).trans hw601_0)) (fun hHeld => ?_)
     generalize wr.drew = w7 at HB hx601_0 hHeld ⊢
     refine pk_ 0 12 1 ?_
     refine pk_ 1 13 3 ?_
     refine pk_ 2 14 7 ?_
     refine pk_ 4 16 23 ?_
     refine tk_ 3 15 31 ?_
     refine one_ (i := 5) (N := some 17) (lz_ 7 63) rfl rfl (by kernel_rfl) (by decide) (fun K hK => ?_)
     refine ge_ Try.func82 #[.int .i64 x1_1] ?_
     with_reducible refine (laws_markText.calls k1 x1_1 t602 _ A5.out).mono ?_
     rintro e w8 ⟨rfl, hb⟩
     refine ⟨_, rfl, ?_⟩
     replace HB := ss_ HB hb
     clear hb
     refine hK.out _ _ (((HB.out.cell (World.block_lt_of_cell? w _ hw601_0)).trans hw601_0)) (fun hHeld => ?_)
     clear hK K
     refine no_ 17 ?_
     refine pk_ 6 18 127 ?_
     refine done_ (by kernel_rfl) ?_
     try go_wp2
     go_roundg k1
     case measure => have := HK1.out; omega
     case rel => exact ⟨(wrap64 (x1_1 + 1)), (wrap64 (x5_1 + 1)), e1_, e1_, H', ⟨by have := HK1.out; omega⟩, ⟨bw_ HB⟩⟩
    ·have c6b0 : ((rdOf ByteArray.empty l0 x5_1).toList == t602.toList) = false := beq_eq_false_iff_ne.mpr c6
     have c6b1 : ((rdOf ByteArray.empty l0 x5_1).toList != t602.toList) = true := bne_iff_ne.mpr c6
     obtain rfl := Option.some.inj H
     try go_wp2
     replace HB := Aside0.mk (below_drew1 HB.out)
     have p601 : 0 ≤ (x5_1 : Int) := of_decide_eq_true as_
     have q601 : x5_1 < (l0.length : Int) := of_decide_eq_true as_
     obtain ⟨ad601, e601, hx601_0⟩ := Kd.at_string HR0.out x5_1 p601 q601
     have hw601_0 := hx601_0
     cases e601
     replace hx601_0 := (HB.out.cell (World.block_lt_of_cell? w _ hx601_0)).trans hx601_0
     replace p601 := eq_true p601
     replace q601 := eq_true q601
     refine start_ (n := 7) (S := fun w' => w'.cell? (ad601.add (x5_1).toNat) = some (.string (rdOf ByteArray.empty l0 x5_1))) (ds := []) (lz_ 7 0) (by kernel_rfl) rfl rfl (((HB.out.cell (World.block_lt_of_cell? w _ hw601_0)).trans hw601_0)) (fun hHeld => ?_)
     generalize wr.drew = w9 at HB hx601_0 hHeld ⊢
     refine pk_ 0 12 1 ?_
     refine pk_ 1 13 3 ?_
     refine pk_ 2 14 7 ?_
     refine pk_ 4 16 23 ?_
     refine tk_ 3 15 31 ?_
     refine one_ (i := 5) (N := some 17) (lz_ 7 63) rfl rfl (by kernel_rfl) (by decide) (fun K hK => ?_)
     refine ge_ Try.func82 #[.int .i64 x1_1] ?_
     with_reducible refine (laws_markText.calls k1 x1_1 t602 _ A5.out).mono ?_
     rintro e w10 ⟨rfl, hb⟩
     refine ⟨_, rfl, ?_⟩
     replace HB := ss_ HB hb
     clear hb
     refine hK.out _ _ (((HB.out.cell (World.block_lt_of_cell? w _ hw601_0)).trans hw601_0)) (fun hHeld => ?_)
     clear hK K
     refine no_ 17 ?_
     refine pk_ 6 18 127 ?_
     refine done_ (by kernel_rfl) ?_
     try go_wp2
     go_ret
     exact ⟨e2_, bw_ HB⟩
   ·obtain rfl := Option.some.inj H
    go_wp2
    go_ret
    exact ⟨e2_, bw_ HB⟩
end Go.Proofs.Ytjnnglphdaemaaa.Q
end

section
/- Marks in lists of texts that are found again. -/
namespace Go.Proofs.Ytjnnglphdaemaaa.Q
open Go.RowKit Go.Proofs.Ytjnnglphdaemaaa.B Go.Proofs.YtjnnglphdaemaaaW.PrintWords
set_option linter.unusedVariables false
set_option linter.unusedSimpArgs false

theorem heldStringS_ev (M : List ByteArray) (a : Int) (h0 : 0 ≤ a) (h1 : a + M.length ≤ 4611686018427387904) (hm : Marked M a) : Ev (fun k => laws_heldStringS.f k M a) (a + (M.length : Int)) := by
  have main : ∀ (d i : Nat), i + d = M.length → Ev (fun k => laws_heldStringS.l0 k M (a + (i : Int)) (i : Int)) (a + (M.length : Int)) := by
    intro d
    induction d with
    | zero =>
      intro i hi
      have hil : i = M.length := by omega
      subst hil
      refine Ev.step (f := fun _ => some (a + (M.length : Int))) (fun k => ?_) (Ev.now _)
      simp only [laws_heldStringS.l0]
      rw [if_neg (by omega)]
    | succ d ih =>
      intro i hi
      obtain ⟨x, hx, hE⟩ := hm i (by omega)
      refine Ev.step (fun k => by simp only [laws_heldStringS.l0]; rfl) ?_
      have e : a + (i : Int) + 1 = a + ((i + 1 : Nat) : Int) := by omega
      first
        | (refine Ev.pos (by omega) (Ev.pos (by omega) (Ev.bind hE ?_))
           rw [rdS hx, nextS (show i < M.length by omega) (by omega), w64 (x := a + (i : Int) + 1) (by omega) (by omega), e]
           exact Ev.pos rfl (ih (i + 1) (by omega)))
        | (refine Ev.pos (by omega) (Ev.bind hE ?_)
           refine Ev.pos (by omega) ?_
           rw [rdS hx, nextS (show i < M.length by omega) (by omega), w64 (x := a + (i : Int) + 1) (by omega) (by omega), e]
           exact Ev.pos rfl (ih (i + 1) (by omega)))
  refine Ev.congr (fun k => ?_) (main M.length 0 (by omega))
  unfold laws_heldStringS.f
  congr 1
  omega
end Go.Proofs.Ytjnnglphdaemaaa.Q
end

section
-- Written by a program of this session (wip/tools/pp.sh) over the print of the kit.
namespace Go.Proofs.Ytjnnglphdaemaaa.Q
open Go.RowKit Go.Proofs.YtjnnglphdaemaaaW.PrintWords Go.Proofs.YtjnnglphdaemaaaW.PrintLast Go.Proofs.YtjnnglphdaemaaaW.PrintMore
attribute [local go_sem] max2_int min2_int max_two min_two max_three min_three max_four min_four   -- for this text's walks alone
set_option linter.unusedVariables false
set_option linter.unusedSimpArgs false
def laws_heldLog.f (k : Nat) (l0_0 : List ByteArray) (a0_1 : Int) (a0_2 : ByteArray) (a1 : Int) : Option (Int) := (laws_heldStringS.f k l0_0 a1).bind fun t602 => (if t602 < 0 then (some (-1)) else (some t602))
theorem laws_heldLog.mono : ∀ a0 a1 a2 a3 k, LeO (laws_heldLog.f k a0 a1 a2 a3) (laws_heldLog.f (k + 1) a0 a1 a2 a3) := by
 intro a0 a1 a2 a3 k
 unfold laws_heldLog.f
 repeat' (with_reducible first | exact LeO.refl _ | exact LeO.none _ | apply laws_heldStringS.mono | apply LeO.ite | refine LeO.bind ?_ fun _ => ?_)
set_option maxHeartbeats 8000000 in
set_option maxRecDepth 100000 in
theorem laws_heldLog.calls (k : Nat) (A0_0 : Option Addr) (c0_0 : Nat) (l0_0 : List ByteArray) (a0_1 : Int) (a0_2 : ByteArray) (a1 : Int) (r : Int) (w : World) (hr0_0 : Kd.C Kd.string w A0_0 l0_0.length l0_0) (hc0_0 : l0_0.length ≤ c0_0) (h : laws_heldLog.f k l0_0 a0_1 a0_2 a1 = some r) :
  Calls Try.prog 37 #[.agg #[.slice A0_0 l0_0.length c0_0, .int .i64 a0_1, .string a0_2], .int .i64 a1] w fun e w' => e = .returned (.int .i64 r) ∧ Below w.heap.size w w' := by
 have hu31 := Try.underlying31
 have HR0_0 := Aside0.mk hr0_0
 have HC0_0 := Aside0.mk hc0_0
 clear hr0_0 hc0_0
 have HB := Aside0.mk (Below.refl w.heap.size w)
 have H : ((laws_heldStringS.f k l0_0 a1).bind fun t602 => (if t602 < 0 then (some (-1)) else (some t602))) = some r := h
 clear h
 replace H := bi_ H; obtain ⟨t602, A3, H⟩ := H
 replace H := itd_ H; obtain ⟨c4b0, H⟩ | ⟨c4b0, H⟩ := H
 ·obtain rfl := Option.some.inj H
  go_enter Try.func37, Try.ntmps37
  go_wp2_with (first | ((with_reducible refine gd_ 2 ?_); refine bx_ 2 31 #[.slice A0_0 l0_0.length c0_0, .int .i64 a0_1, .string a0_2] ?_; intro gb601 hg w5 hbox hb; have BK601 := Aside0.mk hbox; have GW601 := gg_ hg HB; have GE601 := GW601; replace HB := ss_ HB hb; clear hb hbox hg; have hz6 := cz3_ BK601) | ((with_reducible refine gq_ 83 8 ?_); refine gc_ 8 Try.func83 (laws_heldStringS.calls k _ _ l0_0 a1 t602 _ (cb_ HR0_0 HB) HC0_0.out A3.out) ?_; rintro e w7 ⟨rfl, hb⟩; refine ⟨_, rfl, ?_⟩; replace BK601 := kl_ BK601 hb; replace HB := ss_ HB hb; clear hb))
  go_ret
  exact ⟨e2_, bw_ HB⟩
 ·obtain rfl := Option.some.inj H
  go_enter Try.func37, Try.ntmps37
  go_wp2_with (first | ((with_reducible refine gd_ 2 ?_); refine bx_ 2 31 #[.slice A0_0 l0_0.length c0_0, .int .i64 a0_1, .string a0_2] ?_; intro gb601 hg w8 hbox hb; have BK601 := Aside0.mk hbox; have GW601 := gg_ hg HB; have GE601 := GW601; replace HB := ss_ HB hb; clear hb hbox hg; have hz9 := cz3_ BK601) | ((with_reducible refine gq_ 83 8 ?_); refine gc_ 8 Try.func83 (laws_heldStringS.calls k _ _ l0_0 a1 t602 _ (cb_ HR0_0 HB) HC0_0.out A3.out) ?_; rintro e w10 ⟨rfl, hb⟩; refine ⟨_, rfl, ?_⟩; replace BK601 := kl_ BK601 hb; replace HB := ss_ HB hb; clear hb))
  go_ret
  exact ⟨e2_, bw_ HB⟩
end Go.Proofs.Ytjnnglphdaemaaa.Q
end

section
/- Marks in logs that are found again. -/
namespace Go.Proofs.Ytjnnglphdaemaaa.Q
open Go.RowKit Go.Proofs.Ytjnnglphdaemaaa.B Go.Proofs.YtjnnglphdaemaaaW.PrintWords
set_option linter.unusedVariables false

theorem heldLog_ev (M : List ByteArray) (n : Int) (s : ByteArray) (a : Int) (h0 : 0 ≤ a) (h1 : a + M.length ≤ 4611686018427387904) (hm : Marked M a) : Ev (fun k => laws_heldLog.f k M n s a) (a + (M.length : Int)) := by
  unfold laws_heldLog.f
  exact Ev.bind (heldStringS_ev M a h0 h1 hm) (Ev.neg (by omega) (Ev.now _))
end Go.Proofs.Ytjnnglphdaemaaa.Q
end

section
-- Written by a program of this session (wip/tools/pp.sh) over the print of the kit.
namespace Go.Proofs.Ytjnnglphdaemaaa.Q
open Go.RowKit Go.Proofs.YtjnnglphdaemaaaW.PrintWords Go.Proofs.YtjnnglphdaemaaaW.PrintLast Go.Proofs.YtjnnglphdaemaaaW.PrintMore
attribute [local go_sem] max2_int min2_int max_two min_two max_three min_three max_four min_four   -- for this text's walks alone
set_option linter.unusedVariables false
set_option linter.unusedSimpArgs false
def laws_heldStore.f (k : Nat) (l0_0 : List ByteArray) (a0_1 : Int) (a0_2 : ByteArray) (l0_3 : List Int) (a0_4 : Int) (a1 : Int) : Option (Int) := (laws_heldLog.f k l0_0 a0_1 a0_2 a1).bind fun t602 => (if t602 < 0 then (some (-1)) else ((laws_heldByteS.f k l0_3 t602).bind fun t603 => (if t603 < 0 then (some (-1)) else (some t603))))
theorem laws_heldStore.mono : ∀ a0 a1 a2 a3 a4 a5 k, LeO (laws_heldStore.f k a0 a1 a2 a3 a4 a5) (laws_heldStore.f (k + 1) a0 a1 a2 a3 a4 a5) := by
 intro a0 a1 a2 a3 a4 a5 k
 unfold laws_heldStore.f
 repeat' (with_reducible first | exact LeO.refl _ | exact LeO.none _ | apply laws_heldByteS.mono | apply laws_heldLog.mono | apply LeO.ite | refine LeO.bind ?_ fun _ => ?_)
set_option maxHeartbeats 8000000 in
set_option maxRecDepth 100000 in
theorem laws_heldStore.calls (k : Nat) (A0_0 : Option Addr) (c0_0 : Nat) (l0_0 : List ByteArray) (a0_1 : Int) (a0_2 : ByteArray) (A0_3 : Option Addr) (c0_3 : Nat) (l0_3 : List Int) (a0_4 : Int) (a1 : Int) (r : Int) (w : World) (hr0_0 : Kd.C Kd.string w A0_0 l0_0.length l0_0) (hc0_0 : l0_0.length ≤ c0_0) (hr0_3 : Kd.C (Kd.int .u8) w A0_3 l0_3.length l0_3) (hc0_3 : l0_3.length ≤ c0_3) (h : laws_heldStore.f k l0_0 a0_1 a0_2 l0_3 a0_4 a1 = some r) :
  Calls Try.prog 49 #[.agg #[.slice A0_0 l0_0.length c0_0, .int .i64 a0_1, .string a0_2, .slice A0_3 l0_3.length c0_3, .int .i64 a0_4], .int .i64 a1] w fun e w' => e = .returned (.int .i64 r) ∧ Below w.heap.size w w' := by
 have hu37 := Try.underlying37
 have hu31 := Try.underlying31
 have HR0_0 := Aside0.mk hr0_0
 have HC0_0 := Aside0.mk hc0_0
 clear hr0_0 hc0_0
 have HR0_3 := Aside0.mk hr0_3
 have HC0_3 := Aside0.mk hc0_3
 clear hr0_3 hc0_3
 have HB := Aside0.mk (Below.refl w.heap.size w)
 have H : ((laws_heldLog.f k l0_0 a0_1 a0_2 a1).bind fun t602 => (if t602 < 0 then (some (-1)) else ((laws_heldByteS.f k l0_3 t602).bind fun t603 => (if t603 < 0 then (some (-1)) else (some t603))))) = some r := h
 clear h
 replace H := bi_ H; obtain ⟨t602, A3, H⟩ := H
 replace H := itd_ H; obtain ⟨c4b0, H⟩ | ⟨c4b0, H⟩ := H
 ·obtain rfl := Option.some.inj H
  go_enter Try.func49, Try.ntmps49
  go_wp2_with (first | ((with_reducible refine gd_ 2 ?_); refine bx_ 2 37 #[.slice A0_0 l0_0.length c0_0, .int .i64 a0_1, .string a0_2, .slice A0_3 l0_3.length c0_3, .int .i64 a0_4] ?_; intro gb601 hg w5 hbox hb; have BK601 := Aside0.mk hbox; have GW601 := gg_ hg HB; have GE601 := GW601; replace HB := ss_ HB hb; clear hb hbox hg; have hz6 := cz5_ BK601) | ((with_reducible refine gq_ 37 8 ?_); refine gc_ 8 Try.func37 (laws_heldLog.calls k _ _ l0_0 a0_1 a0_2 a1 t602 _ (cb_ HR0_0 HB) HC0_0.out A3.out) ?_; rintro e w7 ⟨rfl, hb⟩; refine ⟨_, rfl, ?_⟩; replace BK601 := kl_ BK601 hb; replace HB := ss_ HB hb; clear hb))
  go_ret
  exact ⟨e2_, bw_ HB⟩
 ·replace H := bi_ H; obtain ⟨t603, A8, H⟩ := H
  replace H := itd_ H; obtain ⟨c9b0, H⟩ | ⟨c9b0, H⟩ := H
  ·obtain rfl := Option.some.inj H
   go_enter Try.func49, Try.ntmps49
   go_wp2_with (first | ((with_reducible refine gd_ 2 ?_); refine bx_ 2 37 #[.slice A0_0 l0_0.length c0_0, .int .i64 a0_1, .string a0_2, .slice A0_3 l0_3.length c0_3, .int .i64 a0_4] ?_; intro gb601 hg w10 hbox hb; have BK601 := Aside0.mk hbox; have GW601 := gg_ hg HB; have GE601 := GW601; replace HB := ss_ HB hb; clear hb hbox hg; have hz11 := cz5_ BK601) | ((with_reducible refine gq_ 37 8 ?_); refine gc_ 8 Try.func37 (laws_heldLog.calls k _ _ l0_0 a0_1 a0_2 a1 t602 _ (cb_ HR0_0 HB) HC0_0.out A3.out) ?_; rintro e w12 ⟨rfl, hb⟩; refine ⟨_, rfl, ?_⟩; replace BK601 := kl_ BK601 hb; replace HB := ss_ HB hb; clear hb; have hz13 := cz5_ BK601) | ((with_reducible refine gq_ 89 14 ?_); refine gc_ 14 Try.func89 (laws_heldByteS.calls k _ _ l0_3 t602 t603 _ (cb_ HR0_3 HB) HC0_3.out A8.out) ?_; rintro e w' ⟨rfl, ⟨nd, rfl⟩⟩; refine ⟨_, rfl, ?_⟩))
   go_ret
   exact ⟨e2_, bw_ HB⟩
  ·obtain rfl := Option.some.inj H
   go_enter Try.func49, Try.ntmps49
   go_wp2_with (first | ((with_reducible refine gd_ 2 ?_); refine bx_ 2 37 #[.slice A0_0 l0_0.length c0_0, .int .i64 a0_1, .string a0_2, .slice A0_3 l0_3.length c0_3, .int .i64 a0_4] ?_; intro gb601 hg w14 hbox hb; have BK601 := Aside0.mk hbox; have GW601 := gg_ hg HB; have GE601 := GW601; replace HB := ss_ HB hb; clear hb hbox hg; have hz15 := cz5_ BK601) | ((with_reducible refine gq_ 37 8 ?_); refine gc_ 8 Try.func37 (laws_heldLog.calls k _ _ l0_0 a0_1 a0_2 a1 t602 _ (cb_ HR0_0 HB) HC0_0.out A3.out) ?_; rintro e w16 ⟨rfl, hb⟩; refine ⟨_, rfl, ?_⟩; replace BK601 := kl_ BK601 hb; replace HB := ss_ HB hb; clear hb; have hz17 := cz5_ BK601) | ((with_reducible refine gq_ 89 14 ?_); refine gc_ 14 Try.func89 (laws_heldByteS.calls k _ _ l0_3 t602 t603 _ (cb_ HR0_3 HB) HC0_3.out A8.out) ?_; rintro e w' ⟨rfl, ⟨nd, rfl⟩⟩; refine ⟨_, rfl, ?_⟩))
   go_ret
   exact ⟨e2_, bw_ HB⟩
end Go.Proofs.Ytjnnglphdaemaaa.Q
end

section
/- Marks in stores that are found again. -/
namespace Go.Proofs.Ytjnnglphdaemaaa.Q
open Go.RowKit Go.Proofs.Ytjnnglphdaemaaa.B Go.Proofs.YtjnnglphdaemaaaW.PrintWords
set_option linter.unusedVariables false

theorem heldStore_ev (M : List ByteArray) (n : Int) (s : ByteArray) (b : Nat) (u : Int) (a : Int) (h0 : 0 ≤ a) (h1 : a + M.length + b ≤ 4611686018427387904) (hm : Marked M a) : Ev (fun k => laws_heldStore.f k M n s (markB (a + (M.length : Int)) b) u a) (a + (M.length : Int) + (b : Int)) := by
  unfold laws_heldStore.f
  exact Ev.bind (heldLog_ev M n s a h0 (by omega) hm) (Ev.neg (by omega) (Ev.bind (heldByteS_ev b (a + (M.length : Int)) (by omega) (by omega)) (Ev.neg (by omega) (Ev.now _))))
end Go.Proofs.Ytjnnglphdaemaaa.Q
end

section
/- Bytes as whole numbers. -/
namespace Go.Proofs.Ytjnnglphdaemaaa.Q
open Go.RowKit Go.Proofs.Ytjnnglphdaemaaa.B Go.Proofs.YtjnnglphdaemaaaW.PrintWords
theorem int_bytes {l : List Int} (h : ∀ y ∈ l, (Lit.int .u8 y).wf = true) : ∀ x ∈ l, 0 ≤ x ∧ x ≤ 255 := fun x hx => by
  have := h x hx
  simp only [Lit.wf, IntKind.min, IntKind.max, IntKind.signed, IntKind.bits, Bool.and_eq_true, decide_eq_true_eq, Bool.false_eq_true, if_false] at this
  omega
end Go.Proofs.Ytjnnglphdaemaaa.Q
end

section
/- slices.Clone of texts: the same list in new memory (bounds: what append takes). -/
namespace Go.Proofs.Ytjnnglphdaemaaa.Q
open Go.RowKit Go.Proofs.YtjnnglphdaemaaaW.PrintWords Go.Proofs.YtjnnglphdaemaaaW.PrintLast Go.Proofs.YtjnnglphdaemaaaW.PrintMore
set_option linter.unusedVariables false
set_option linter.unusedSimpArgs false

def slices_Clone_string_string.f (l0 : List ByteArray) : Option (List ByteArray) := if l0.length ≤ 8796093022208 then some l0 else none
theorem slices_Clone_string_string.info : (Try.prog.info? 9).map (fun i => (i.zero, i.size, i.bytes)) = some (some (.string ⟨#[]⟩), 1, 16) := by kernel_rfl
set_option maxHeartbeats 1000000 in
set_option maxRecDepth 100000 in
theorem slices_Clone_string_string.calls (A0 : Option Addr) (c0 : Nat) (l0 : List ByteArray) (r : List ByteArray) (w : World) (hr0 : Kd.C Kd.string w A0 l0.length l0) (hc0 : l0.length ≤ c0) (h : slices_Clone_string_string.f l0 = some r) :
    Calls Try.prog 105 #[.slice A0 l0.length c0] w fun e w' => ∃ v0_ : Value, e = .returned (v0_) ∧ Kd.R Kd.string 9 w' w.heap.size (fun _ => True) v0_ r ∧ Below w.heap.size w w' := by
  unfold slices_Clone_string_string.f at h
  by_cases hl : l0.length ≤ 8796093022208
  · rw [if_pos hl] at h
    obtain rfl := Option.some.inj h
    have LM := Aside0.mk hl
    have HR0 := Aside0.mk hr0
    have HC0 := Aside0.mk hc0
    have hn := fun W : World => Lib.run_eql_slice_nil (P := Try.prog) W 24 9 A0 l0.length c0 0 0 Try.underlying24
    clear hl h hc0
    cases A0 with
    | none =>
      have h0 : l0 = [] := by
        rcases Nat.eq_zero_or_pos l0.length with hz | hz
        · exact List.eq_nil_of_length_eq_zero hz
        · obtain ⟨ad, he, _⟩ := hr0.2.2 hz
          cases he
      subst h0
      clear hr0 hn
      have hn2 := fun W : World => Lib.run_eql_slice_nil (P := Try.prog) W 24 9 none 0 c0 0 0 Try.underlying24
      go_enter Try.func105, Try.ntmps105
      go_wp2
      go_ret
      exact ⟨_, rfl, Kd.R_nil _ _ _ _ _, Below.refl _ _⟩
    | some ad =>
      clear hr0
      go_enter Try.func105, Try.ntmps105
      go_wp2_with (first | ((with_reducible refine gate_dst (N := 5) rfl ?_); refine Kd.R_lit Kd.string _ 9 ?hg (N := 5) ?hd (w0 := w) (xs := ([] : List ByteArray)) (inner := []) (ok := fun _ => True) (okp := fun _ => True) ?hr ?hp (fun _ hk => hk) trivial (Below.refl _ _) (Nat.le_refl _) (by simp) ?_; (case hd => rfl); (case hg => rfl); (case hr => first | (go_simp; done) | (go_simp; rfl)); (case hp => exact (Reps.none _ _)); intro v1 w4 ho5 hb hg_ hnew_; clear hg_ hnew_; have HO := Aside0.mk ho5; have HB := Aside0.mk hb; clear ho5 hb) | ((with_reducible refine gate_builtin (b := .append) (xs := #[.tmp 5, .tmp 6]) rfl ?_); at_builtin; refine Kd.R_append_rows Kd.string (w0 := w) w.heap.size rfl (.tmp 5) (.tmp 6) 24 9 (.string ⟨#[]⟩) 16 rfl Try.underlying24 slices_Clone_string_string.info rfl (by decide) (by omega) v1 [] l0 _ _ _ (fun _ => True) (fun _ => False) rfl rfl ?aO ?aR (fun _ _ h => h) (fun _ h => h.elim) ?aF ?aB ?aS ?aL ?_; (case aR => exact Kd.C_below HR0.out HB.out); (case aB => exact HB.out); (case aF => exact (fun _ _ => trivial)); (case aO => exact HO.out); (case aS => exact HB.out.size); (case aL => have := LM.out; simp only [List.length_nil]; omega); intro v2 w6 ho hb hg hat; have HO2 := Aside0.mk ho; have HB2 := Aside0.mk hb; clear ho hb hg hat))
      go_ret
      exact ⟨_, rfl, by simpa using HO2.out, HB2.out⟩
  · rw [if_neg hl] at h
    cases h
end Go.Proofs.Ytjnnglphdaemaaa.Q
end

section
/- slices.Clone of bytes and of texts: the same list in new memory (bounds: what append takes). -/
namespace Go.Proofs.Ytjnnglphdaemaaa.Q
open Go.RowKit Go.Proofs.YtjnnglphdaemaaaW.PrintWords Go.Proofs.YtjnnglphdaemaaaW.PrintLast Go.Proofs.YtjnnglphdaemaaaW.PrintMore
set_option linter.unusedVariables false
set_option linter.unusedSimpArgs false

def slices_Clone_byte_byte.f (l0 : List Int) : Option (List Int) := if l0.length ≤ 140737488355328 then some l0 else none
theorem slices_Clone_byte_byte.info : (Try.prog.info? 5).map (fun i => (i.zero, i.size, i.bytes)) = some (some (.int .u8 0), 1, 1) := by kernel_rfl
set_option maxHeartbeats 1000000 in
set_option maxRecDepth 100000 in
theorem slices_Clone_byte_byte.calls (A0 : Option Addr) (c0 : Nat) (l0 : List Int) (r : List Int) (w : World) (hr0 : Kd.C (Kd.int .u8) w A0 l0.length l0) (hc0 : l0.length ≤ c0) (h : slices_Clone_byte_byte.f l0 = some r) :
    Calls Try.prog 85 #[.slice A0 l0.length c0] w fun e w' => ∃ v0_ : Value, e = .returned (v0_) ∧ Kd.R (Kd.int .u8) 5 w' w.heap.size (fun _ => True) v0_ r ∧ Below w.heap.size w w' := by
  unfold slices_Clone_byte_byte.f at h
  by_cases hl : l0.length ≤ 140737488355328
  · rw [if_pos hl] at h
    obtain rfl := Option.some.inj h
    have LM := Aside0.mk hl
    have HR0 := Aside0.mk hr0
    have HC0 := Aside0.mk hc0
    have hn := fun W : World => Lib.run_eql_slice_nil (P := Try.prog) W 22 5 A0 l0.length c0 0 0 Try.underlying22
    clear hl h hc0
    cases A0 with
    | none =>
      have h0 : l0 = [] := by
        rcases Nat.eq_zero_or_pos l0.length with hz | hz
        · exact List.eq_nil_of_length_eq_zero hz
        · obtain ⟨ad, he, _⟩ := hr0.2.2 hz
          cases he
      subst h0
      clear hr0 hn
      have hn2 := fun W : World => Lib.run_eql_slice_nil (P := Try.prog) W 22 5 none 0 c0 0 0 Try.underlying22
      go_enter Try.func85, Try.ntmps85
      go_wp2
      go_ret
      exact ⟨_, rfl, Kd.R_nil _ _ _ _ _, Below.refl _ _⟩
    | some ad =>
      clear hr0
      go_enter Try.func85, Try.ntmps85
      go_wp2_with (first | ((with_reducible refine gate_dst (N := 5) rfl ?_); refine Kd.R_lit (Kd.int .u8) _ 5 ?hg (N := 5) ?hd (w0 := w) (xs := ([] : List Int)) (inner := []) (ok := fun _ => True) (okp := fun _ => True) ?hr ?hp (fun _ hk => hk) trivial (Below.refl _ _) (Nat.le_refl _) (by simp) ?_; (case hd => rfl); (case hg => rfl); (case hr => first | (go_simp; done) | (go_simp; rfl)); (case hp => exact (Reps.none _ _)); intro v1 w4 ho5 hb hg_ hnew_; clear hg_ hnew_; have HO := Aside0.mk ho5; have HB := Aside0.mk hb; clear ho5 hb) | ((with_reducible refine gate_builtin (b := .append) (xs := #[.tmp 5, .tmp 6]) rfl ?_); at_builtin; refine Kd.R_append_rows (Kd.int .u8) (w0 := w) w.heap.size rfl (.tmp 5) (.tmp 6) 22 5 (.int .u8 0) 1 rfl Try.underlying22 slices_Clone_byte_byte.info rfl (by decide) (by omega) v1 [] l0 _ _ _ (fun _ => True) (fun _ => False) rfl rfl ?aO ?aR (fun _ _ h => h) (fun _ h => h.elim) ?aF ?aB ?aS ?aL ?_; (case aR => exact Kd.C_below HR0.out HB.out); (case aB => exact HB.out); (case aF => exact (fun _ _ => trivial)); (case aO => exact HO.out); (case aS => exact HB.out.size); (case aL => have := LM.out; simp only [List.length_nil]; omega); intro v2 w6 ho hb hg hat; have HO2 := Aside0.mk ho; have HB2 := Aside0.mk hb; clear ho hb hg hat))
      go_ret
      exact ⟨_, rfl, by simpa using HO2.out, HB2.out⟩
  · rw [if_neg hl] at h
    cases h
end Go.Proofs.Ytjnnglphdaemaaa.Q
end

section
-- Written by a program of this session (wip/tools/pp.sh) over the print of the kit.
namespace Go.Proofs.Ytjnnglphdaemaaa.Q
open Go.RowKit Go.Proofs.YtjnnglphdaemaaaW.PrintWords Go.Proofs.YtjnnglphdaemaaaW.PrintLast Go.Proofs.YtjnnglphdaemaaaW.PrintMore
attribute [local go_sem] max2_int min2_int max_two min_two max_three min_three max_four min_four   -- for this text's walks alone
set_option linter.unusedVariables false
set_option linter.unusedSimpArgs false
def impl_copyLog.f (l0_0 : List ByteArray) (a0_1 : Int) (a0_2 : ByteArray) : Option (List ByteArray × Int × ByteArray) := (slices_Clone_string_string.f l0_0).bind fun t603 => (some (t603, a0_1, a0_2))
set_option maxHeartbeats 8000000 in
set_option maxRecDepth 100000 in
theorem impl_copyLog.calls (A0_0 : Option Addr) (c0_0 : Nat) (l0_0 : List ByteArray) (a0_1 : Int) (a0_2 : ByteArray) (r1 : List ByteArray) (r2 : Int) (r3 : ByteArray) (w : World) (hr0_0 : Kd.C Kd.string w A0_0 l0_0.length l0_0) (hc0_0 : l0_0.length ≤ c0_0) (h : impl_copyLog.f l0_0 a0_1 a0_2 = some (r1, r2, r3)) :
  Calls Try.prog 63 #[.agg #[.slice A0_0 l0_0.length c0_0, .int .i64 a0_1, .string a0_2]] w fun e w' => ∃ v0_ : Value, e = .returned (.agg #[v0_, .int .i64 r2, .string r3]) ∧ Kd.R Kd.string 9 w' w.heap.size (fun _ => True) v0_ r1 ∧ Below w.heap.size w w' := by
 have hu31 := Try.underlying31
 have HR0_0 := Aside0.mk hr0_0
 have HC0_0 := Aside0.mk hc0_0
 clear hr0_0 hc0_0
 have HB := Aside0.mk (Below.refl w.heap.size w)
 have H : ((slices_Clone_string_string.f l0_0).bind fun t603 => (some (t603, a0_1, a0_2))) = some (r1, r2, r3) := h
 clear h
 replace H := bi_ H; obtain ⟨t603, A2, H⟩ := H
 replace H := so3_ H; obtain ⟨rfl, rfl, rfl⟩ := H
 go_enter Try.func63, Try.ntmps63
 go_wp2_with (first | ((with_reducible refine gd_ 1 ?_); refine bx_ 1 31 #[.slice A0_0 l0_0.length c0_0, .int .i64 a0_1, .string a0_2] ?_; intro gb601 hg w3 hbox hb; have BK601 := Aside0.mk hbox; have GW601 := gg_ hg HB; have GE601 := GW601; replace HB := ss_ HB hb; clear hb hbox hg) | ((with_reducible refine gd_ 2 ?_); refine bx_ 2 31 #[.slice none 0 0, .int .i64 0, .string (⟨#[]⟩ : ByteArray)] ?_; intro gb602 hg w4 hbox hb; have BK602 := Aside0.mk hbox; have GW602 := gg_ hg HB; have GE602 := GW602; replace HB := ss_ HB hb; have NB601_602 := nla_ hg BK601; have NB602_601 := nga_ hg BK601; replace BK601 := kl_ BK601 hb; clear hb hbox hg; have hnb5 := NB601_602.out; have hnc5 := NB602_601.out; have hz6 := cz3_ BK601) | ((with_reducible refine gq_ 105 5 ?_); refine gc_ 5 Try.func105 (slices_Clone_string_string.calls _ _ l0_0 t603 _ (cb_ HR0_0 HB) HC0_0.out A2.out) ?_; rintro e w7 ⟨v604, rfl, ho0, hb⟩; refine ⟨_, rfl, ?_⟩; have HO605 := Aside0.mk (Kd.R_lower ho0 (sz_ HB)); replace BK601 := kl_ BK601 hb; replace BK602 := kl_ BK602 hb; replace HB := ss_ HB hb; clear hb ho0; obtain ⟨Ao8, co8, eo8⟩ := Kd.R_slice HO605.out; subst eo8; have hz9 := cz3_ BK601; have hz10 := cz3_ BK602))
 refine bodyPost_ret (results_cell_row rfl _ _ gb602 31 #[.slice Ao8 t603.length co8, .int .i64 a0_1, .string a0_2] (0, 0) _ rfl (by exact kq_ BK602) Try.underlying31 rfl (by kernel_rfl)) rfl ?_
 exact ⟨_, e2_, by (with_reducible repeat (first | apply Kd.R_alloc | apply Kd.R_drewN | apply Kd.R_drew)); exact Kd.R_mono (Kd.R_far (p := ⟨gb602, 2, none⟩) (Kd.R_far (p := ⟨gb602, 1, none⟩) (Kd.R_far (p := ⟨gb602, 0, none⟩) (Kd.R_far (p := ⟨gb601, 0, none⟩) (Kd.R_types (Kd.R_types HO605.out BK601.out (by decide)) BK602.out (by decide)) (fun _ hk => hk.1.2) (.slice Ao8 t603.length co8)) (fun _ hk => hk.2) (.slice Ao8 t603.length co8)) (fun _ hk => hk.2) (.int .i64 a0_1)) (fun _ hk => hk.2) (.string a0_2)) (fun _ hk => trivial), bw_ HB⟩
end Go.Proofs.Ytjnnglphdaemaaa.Q
end

section
-- Written by a program of this session (wip/tools/pp.sh) over the print of the kit.
namespace Go.Proofs.Ytjnnglphdaemaaa.Q
open Go.RowKit Go.Proofs.YtjnnglphdaemaaaW.PrintWords Go.Proofs.YtjnnglphdaemaaaW.PrintLast Go.Proofs.YtjnnglphdaemaaaW.PrintMore
attribute [local go_sem] max2_int min2_int max_two min_two max_three min_three max_four min_four   -- for this text's walks alone
set_option linter.unusedVariables false
set_option linter.unusedSimpArgs false
def impl_copyStore.f (l0_0 : List ByteArray) (a0_1 : Int) (a0_2 : ByteArray) (l0_3 : List Int) (a0_4 : Int) : Option (List ByteArray × Int × ByteArray × List Int × Int) := (impl_copyLog.f l0_0 a0_1 a0_2).bind fun bt603 => ((slices_Clone_byte_byte.f l0_3).bind fun t608 => (some (bt603.1, bt603.2.1, bt603.2.2, t608, a0_4)))
def impl_copyStore.T1 : Bool × List (List Nat × List Nat) := (true, [([], []), ([0], [0]), ([1], [1]), ([], []), ([3], [3]), ([4, 2], [4]), ([], []), ([6], [6]), ([2, 5, 7], [2, 5, 7]), ([8, 5, 0, 1, 2, 3, 4, 5, 6, 7, 8], [8])])
def impl_copyStore.B1 : List Nat := [0, 1, 3, 0, 8, 31, 0, 64, 255, 511]
theorem impl_copyStore.tab1 : rtab .any (opsOf Try.f65 1) = impl_copyStore.T1 := by kernel_rfl
theorem impl_copyStore.bits1 : waitsOk impl_copyStore.T1.2 impl_copyStore.B1 = true := by kernel_rfl
set_option maxHeartbeats 8000000 in
set_option maxRecDepth 100000 in
theorem impl_copyStore.calls (A0_0 : Option Addr) (c0_0 : Nat) (l0_0 : List ByteArray) (a0_1 : Int) (a0_2 : ByteArray) (A0_3 : Option Addr) (c0_3 : Nat) (l0_3 : List Int) (a0_4 : Int) (r1 : List ByteArray) (r2 : Int) (r3 : ByteArray) (r4 : List Int) (r5 : Int) (w : World) (hr0_0 : Kd.C Kd.string w A0_0 l0_0.length l0_0) (hc0_0 : l0_0.length ≤ c0_0) (hr0_3 : Kd.C (Kd.int .u8) w A0_3 l0_3.length l0_3) (hc0_3 : l0_3.length ≤ c0_3) (h : impl_copyStore.f l0_0 a0_1 a0_2 l0_3 a0_4 = some (r1, r2, r3, r4, r5)) :
  Calls Try.prog 65 #[.agg #[.slice A0_0 l0_0.length c0_0, .int .i64 a0_1, .string a0_2, .slice A0_3 l0_3.length c0_3, .int .i64 a0_4]] w fun e w' => ∃ v0_ v3_ : Value, e = .returned (.agg #[v0_, .int .i64 r2, .string r3, v3_, .int .i64 r5]) ∧ Kd.R Kd.string 9 w' w.heap.size (fun _ => True) v0_ r1 ∧ Kd.R (Kd.int .u8) 5 w' w.heap.size (fun _ => True) v3_ r4 ∧ Below w.heap.size w w' := by
 have hu37 := Try.underlying37
 have hu31 := Try.underlying31
 have HR0_0 := Aside0.mk hr0_0
 have HC0_0 := Aside0.mk hc0_0
 clear hr0_0 hc0_0
 have HR0_3 := Aside0.mk hr0_3
 have HC0_3 := Aside0.mk hc0_3
 clear hr0_3 hc0_3
 have HB := Aside0.mk (Below.refl w.heap.size w)
 have H : ((impl_copyLog.f l0_0 a0_1 a0_2).bind fun bt603 => ((slices_Clone_byte_byte.f l0_3).bind fun t608 => (some (bt603.1, bt603.2.1, bt603.2.2, t608, a0_4)))) = some (r1, r2, r3, r4, r5) := h
 clear h
 replace H := bi_ H; obtain ⟨⟨t603, t606, t607⟩, A2, H⟩ := H
 dsimp only at H
 replace H := bi_ H; obtain ⟨t608, A3, H⟩ := H
 replace H := so5_ H; obtain ⟨rfl, rfl, rfl, rfl, rfl⟩ := H
 go_enter Try.func65, Try.ntmps65
 try go_wp2_with (first | ((with_reducible refine gd_ 1 ?_); refine bx_ 1 37 #[.slice A0_0 l0_0.length c0_0, .int .i64 a0_1, .string a0_2, .slice A0_3 l0_3.length c0_3, .int .i64 a0_4] ?_; intro gb601 hg w4 hbox hb; have BK601 := Aside0.mk hbox; have GW601 := gg_ hg HB; have GE601 := GW601; replace HB := ss_ HB hb; clear hb hbox hg) | ((with_reducible refine gd_ 2 ?_); refine bx_ 2 37 #[.slice none 0 0, .int .i64 0, .string (⟨#[]⟩ : ByteArray), .slice none 0 0, .int .i64 0] ?_; intro gb602 hg w5 hbox hb; have BK602 := Aside0.mk hbox; have GW602 := gg_ hg HB; have GE602 := GW602; replace HB := ss_ HB hb; have NB601_602 := nla_ hg BK601; have NB602_601 := nga_ hg BK601; replace BK601 := kl_ BK601 hb; clear hb hbox hg))
 replace BK601 := Aside0.mk (blk_drew BK601.out)
 replace BK602 := Aside0.mk (blk_drew BK602.out)
 replace HB := Aside0.mk (below_drew1 HB.out)
 refine start_ (n := 10) (S := fun w' => w'.cell? ⟨gb601, 0, none⟩ = some (.slice A0_0 l0_0.length c0_0) ∧ w'.cell? ⟨gb601, 1, none⟩ = some (.int .i64 a0_1) ∧ w'.cell? ⟨gb601, 2, none⟩ = some (.string a0_2) ∧ w'.cell? ⟨gb601, 3, none⟩ = some (.slice A0_3 l0_3.length c0_3) ∧ w'.cell? ⟨gb601, 4, none⟩ = some (.int .i64 a0_4)) (ds := []) (lz_ 10 0) (by kernel_rfl) rfl rfl ⟨bc0_ BK601.out, bc1_ BK601.out, bc2_ BK601.out, bc3_ BK601.out, bc4_ BK601.out⟩ (fun hHeld => ?_); refine with_tabW impl_copyStore.tab1 impl_copyStore.bits1 (fun HT_ HW_ => ?_)
 generalize w5.drew = w6 at BK601 BK602 HB hHeld ⊢
 refine pt_ 0 3 1 ?_
 refine pt_ 3 6 9 ?_
 refine pt_ 6 9 73 ?_
 refine tt_ 1 4 75 ?_
 refine tt_ 4 7 91 ?_
 refine tt_ 7 10 219 ?_
 refine one_ (i := 2) (N := some 5) (lz_ 10 223) rfl rfl (one_of HT_.out (by kernel_rfl)) (by decide) (fun K hK => ?_)
 refine ge_ Try.func63 #[.agg #[.slice A0_0 l0_0.length c0_0, .int .i64 a0_1, .string a0_2]] ?_
 with_reducible refine (impl_copyLog.calls _ _ l0_0 a0_1 a0_2 t603 t606 t607 _ ?side1 ?side2 A2.out).mono ?_
 (case side1 => exact cb_ HR0_0 HB)
 (case side2 => exact HC0_0.out)
 rintro e w7 ⟨v604, rfl, ho0, hb⟩
 refine ⟨_, rfl, ?_⟩
 have HO605 := Aside0.mk (Kd.R_lower ho0 (sz_ HB))
 replace BK601 := kl_ BK601 hb
 replace BK602 := kl_ BK602 hb
 replace HB := ss_ HB hb
 clear hb ho0
 refine hK.out _ _ ⟨bc0_ BK601.out, bc1_ BK601.out, bc2_ BK601.out, bc3_ BK601.out, bc4_ BK601.out⟩ (fun hHeld => ?_)
 clear hK K
 refine no_ 5 ?_
 refine one_ (i := 5) (N := some 8) (lz_ 10 255) rfl rfl (one_of HT_.out (by kernel_rfl)) (by decide) (fun K hK => ?_)
 refine ge_ Try.func85 #[.slice A0_3 l0_3.length c0_3] ?_
 with_reducible refine (slices_Clone_byte_byte.calls _ _ l0_3 t608 _ ?side1 ?side2 A3.out).mono ?_
 (case side1 => exact cb_ HR0_3 HB)
 (case side2 => exact HC0_3.out)
 rintro e w8 ⟨v609, rfl, ho0, hb⟩
 refine ⟨_, rfl, ?_⟩
 replace HO605 := rb_ HO605 hb
 have HO610 := Aside0.mk (Kd.R_lower ho0 (sz_ HB))
 replace BK601 := kl_ BK601 hb
 replace BK602 := kl_ BK602 hb
 replace HB := ss_ HB hb
 clear hb ho0
 obtain ⟨Ao9, co9, eo9⟩ := Kd.R_slice HO610.out
 (first | subst eo9 | (injection eo9 with f1_ f2_ f3_; have f4_ := f1_.symm; have f5_ := f3_.symm; clear f1_ f2_ f3_; subst f4_; subst f5_))
 obtain ⟨Ao10, co10, eo10⟩ := Kd.R_slice HO605.out
 (first | subst eo10 | (injection eo10 with f1_ f2_ f3_; have f4_ := f1_.symm; have f5_ := f3_.symm; clear f1_ f2_ f3_; subst f4_; subst f5_))
 refine hK.out _ _ ⟨bc0_ BK601.out, bc1_ BK601.out, bc2_ BK601.out, bc3_ BK601.out, bc4_ BK601.out⟩ (fun hHeld => ?_)
 clear hK K
 refine no_ 8 ?_
 refine pt_ 8 11 511 ?_
 refine one_ (i := 9) (N := none) (lz_ 10 1023) rfl rfl (one_of HT_.out (by kernel_rfl)) (by decide) (fun K hK => ?_)
 have hs11 := bc0_ BK602.out
 have hfs11 := blk_frozen BK602.out 0
 have hns11_0 := NB601_602.out
 have hms11_0 := NB602_601.out
 have hs12 := bc1_ BK602.out
 have hfs12 := blk_frozen BK602.out 1
 have hns12_0 := NB601_602.out
 have hms12_0 := NB602_601.out
 have hs13 := bc2_ BK602.out
 have hfs13 := blk_frozen BK602.out 2
 have hns13_0 := NB601_602.out
 have hms13_0 := NB602_601.out
 have hs14 := bc3_ BK602.out
 have hfs14 := blk_frozen BK602.out 3
 have hns14_0 := NB601_602.out
 have hms14_0 := NB602_601.out
 have hs15 := bc4_ BK602.out
 have hfs15 := blk_frozen BK602.out 4
 have hns15_0 := NB601_602.out
 have hms15_0 := NB602_601.out
 refine skip_ (w1 := ?_) (by rfl) rfl ?_ ?_
 rotate_left
 ·go_simp
  rfl
 refine hK.out _ _ ⟨((cell_far (p := ⟨gb602, _, none⟩) NB601_602.out _).trans (((cell_far (p := ⟨gb602, _, none⟩) NB601_602.out _).trans (((cell_far (p := ⟨gb602, _, none⟩) NB601_602.out _).trans (((cell_far (p := ⟨gb602, _, none⟩) NB601_602.out _).trans (((cell_far (p := ⟨gb602, _, none⟩) NB601_602.out _).trans (hHeld.1)))))))))), ((cell_far (p := ⟨gb602, _, none⟩) NB601_602.out _).trans (((cell_far (p := ⟨gb602, _, none⟩) NB601_602.out _).trans (((cell_far (p := ⟨gb602, _, none⟩) NB601_602.out _).trans (((cell_far (p := ⟨gb602, _, none⟩) NB601_602.out _).trans (((cell_far (p := ⟨gb602, _, none⟩) NB601_602.out _).trans (hHeld.2.1)))))))))), ((cell_far (p := ⟨gb602, _, none⟩) NB601_602.out _).trans (((cell_far (p := ⟨gb602, _, none⟩) NB601_602.out _).trans (((cell_far (p := ⟨gb602, _, none⟩) NB601_602.out _).trans (((cell_far (p := ⟨gb602, _, none⟩) NB601_602.out _).trans (((cell_far (p := ⟨gb602, _, none⟩) NB601_602.out _).trans (hHeld.2.2.1)))))))))), ((cell_far (p := ⟨gb602, _, none⟩) NB601_602.out _).trans (((cell_far (p := ⟨gb602, _, none⟩) NB601_602.out _).trans (((cell_far (p := ⟨gb602, _, none⟩) NB601_602.out _).trans (((cell_far (p := ⟨gb602, _, none⟩) NB601_602.out _).trans (((cell_far (p := ⟨gb602, _, none⟩) NB601_602.out _).trans (hHeld.2.2.2.1)))))))))), ((cell_far (p := ⟨gb602, _, none⟩) NB601_602.out _).trans (((cell_far (p := ⟨gb602, _, none⟩) NB601_602.out _).trans (((cell_far (p := ⟨gb602, _, none⟩) NB601_602.out _).trans (((cell_far (p := ⟨gb602, _, none⟩) NB601_602.out _).trans (((cell_far (p := ⟨gb602, _, none⟩) NB601_602.out _).trans (hHeld.2.2.2.2))))))))))⟩ (fun hHeld => ?_)
 clear hK K
 refine done_ (done_of HT_.out (by kernel_rfl)) ?_
 try go_wp2
 refine bodyPost_ret (results_cell_row rfl _ _ gb602 37 #[.slice Ao10 t603.length co10, .int .i64 t606, .string t607, .slice Ao9 t608.length co9, .int .i64 a0_4] (0, 0) _ rfl (by exact kq_ BK602) Try.underlying37 rfl (by kernel_rfl)) rfl ?_
 exact ⟨_, _, e2_, by (with_reducible repeat (first | apply Kd.R_alloc | apply Kd.R_drewN | apply Kd.R_drew)); exact Kd.R_mono (Kd.R_far (p := ⟨gb602, 4, none⟩) (Kd.R_far (p := ⟨gb602, 3, none⟩) (Kd.R_far (p := ⟨gb602, 2, none⟩) (Kd.R_far (p := ⟨gb602, 1, none⟩) (Kd.R_far (p := ⟨gb602, 0, none⟩) (Kd.R_types HO605.out BK602.out (by decide)) (fun _ hk => hk.2) (.slice Ao10 t603.length co10)) (fun _ hk => hk.2) (.int .i64 t606)) (fun _ hk => hk.2) (.string t607)) (fun _ hk => hk.2) (.slice Ao9 t608.length co9)) (fun _ hk => hk.2) (.int .i64 a0_4)) (fun _ hk => trivial), by (with_reducible repeat (first | apply Kd.R_alloc | apply Kd.R_drewN | apply Kd.R_drew)); exact Kd.R_mono (Kd.R_far (p := ⟨gb602, 4, none⟩) (Kd.R_far (p := ⟨gb602, 3, none⟩) (Kd.R_far (p := ⟨gb602, 2, none⟩) (Kd.R_far (p := ⟨gb602, 1, none⟩) (Kd.R_far (p := ⟨gb602, 0, none⟩) (Kd.R_types HO610.out BK602.out (by decide)) (fun _ hk => hk.2) (.slice Ao10 t603.length co10)) (fun _ hk => hk.2) (.int .i64 t606)) (fun _ hk => hk.2) (.string t607)) (fun _ hk => hk.2) (.slice Ao9 t608.length co9)) (fun _ hk => hk.2) (.int .i64 a0_4)) (fun _ hk => trivial), bw_ HB⟩
end Go.Proofs.Ytjnnglphdaemaaa.Q
end

section
-- Written by a program of this session (wip/tools/pp.sh) over the print of the kit.
namespace Go.Proofs.Ytjnnglphdaemaaa.Q
open Go.RowKit Go.Proofs.YtjnnglphdaemaaaW.PrintWords Go.Proofs.YtjnnglphdaemaaaW.PrintLast Go.Proofs.YtjnnglphdaemaaaW.PrintMore
attribute [local go_sem] max2_int min2_int max_two min_two max_three min_three max_four min_four   -- for this text's walks alone
set_option linter.unusedVariables false
set_option linter.unusedSimpArgs false
def spec_l11Copy.f (l0_0 : List ByteArray) (a0_1 : Int) (a0_2 : ByteArray) : Option (List ByteArray × Int × ByteArray) := (some (([] : List ByteArray) : List ByteArray)).bind fun y603 => (if y603.length + l0_0.length < 8796093022208 then (some ((y603 ++ l0_0), a0_1, a0_2)) else (none))
def spec_l11Copy.T1 : Bool × List (List Nat × List Nat) := (true, [([], []), ([], []), ([1], [1]), ([0, 2], [0, 2]), ([], []), ([4], [4]), ([3, 5], [3, 5]), ([6, 3, 0, 1, 2, 3, 4, 5, 6], [6])])
def spec_l11Copy.B1 : List Nat := [0, 0, 2, 7, 0, 16, 63, 127]
theorem spec_l11Copy.tab1 : rtab .any (opsOf Try.f76 1) = spec_l11Copy.T1 := by kernel_rfl
theorem spec_l11Copy.bits1 : waitsOk spec_l11Copy.T1.2 spec_l11Copy.B1 = true := by kernel_rfl
set_option maxHeartbeats 8000000 in
set_option maxRecDepth 100000 in
theorem spec_l11Copy.calls (A0_0 : Option Addr) (c0_0 : Nat) (l0_0 : List ByteArray) (a0_1 : Int) (a0_2 : ByteArray) (r1 : List ByteArray) (r2 : Int) (r3 : ByteArray) (w : World) (hr0_0 : Kd.C Kd.string w A0_0 l0_0.length l0_0) (hc0_0 : l0_0.length ≤ c0_0) (h : spec_l11Copy.f l0_0 a0_1 a0_2 = some (r1, r2, r3)) :
  Calls Try.prog 76 #[.agg #[.slice A0_0 l0_0.length c0_0, .int .i64 a0_1, .string a0_2]] w fun e w' => ∃ v0_ : Value, e = .returned (.agg #[v0_, .int .i64 r2, .string r3]) ∧ Kd.R Kd.string 9 w' w.heap.size (fun _ => True) v0_ r1 ∧ Below w.heap.size w w' := by
 have hu31 := Try.underlying31
 have hu28 := Try.underlying28
 have HR0_0 := Aside0.mk hr0_0
 have HC0_0 := Aside0.mk hc0_0
 clear hr0_0 hc0_0
 have HB := Aside0.mk (Below.refl w.heap.size w)
 have H : ((some (([] : List ByteArray) : List ByteArray)).bind fun y603 => (if y603.length + l0_0.length < 8796093022208 then (some ((y603 ++ l0_0), a0_1, a0_2)) else (none))) = some (r1, r2, r3) := h
 clear h
 obtain ⟨y603, Ny603, H⟩ := sb_ (([] : List ByteArray)) H
 replace H := ip_ H; obtain ⟨c2, H⟩ := H
 have LMc2 := Aside0.mk c2
 clear c2
 obtain ⟨y606, hy606⟩ : ∃ y_ : List ByteArray, y_ = (y603 ++ l0_0) := ⟨_, rfl⟩
 replace H : (some (y606, a0_1, a0_2)) = some (r1, r2, r3) := yh_ hy606 H
 have Ny606 := Aside0.mk hy606
 clear hy606
 replace H := so3_ H; obtain ⟨rfl, rfl, rfl⟩ := H
 go_enter Try.func76, Try.ntmps76
 try go_wp2_with (first | ((with_reducible refine gd_ 1 ?_); refine bx_ 1 31 #[.slice A0_0 l0_0.length c0_0, .int .i64 a0_1, .string a0_2] ?_; intro gb601 hg w3 hbox hb; have BK601 := Aside0.mk hbox; have GW601 := gg_ hg HB; have GE601 := GW601; replace HB := ss_ HB hb; clear hb hbox hg) | ((with_reducible refine gd_ 2 ?_); refine bx_ 2 31 #[.slice none 0 0, .int .i64 0, .string (⟨#[]⟩ : ByteArray)] ?_; intro gb602 hg w4 hbox hb; have BK602 := Aside0.mk hbox; have GW602 := gg_ hg HB; have GE602 := GW602; replace HB := ss_ HB hb; have NB601_602 := nla_ hg BK601; have NB602_601 := nga_ hg BK601; replace BK601 := kl_ BK601 hb; clear hb hbox hg))
 replace BK601 := Aside0.mk (blk_drew BK601.out)
 replace BK602 := Aside0.mk (blk_drew BK602.out)
 replace HB := Aside0.mk (below_drew1 HB.out)
 refine start_ (n := 8) (S := fun w' => w'.cell? ⟨gb601, 0, none⟩ = some (.slice A0_0 l0_0.length c0_0) ∧ w'.cell? ⟨gb601, 1, none⟩ = some (.int .i64 a0_1) ∧ w'.cell? ⟨gb601, 2, none⟩ = some (.string a0_2)) (ds := []) (lz_ 8 0) (by kernel_rfl) rfl rfl ⟨bc0_ BK601.out, bc1_ BK601.out, bc2_ BK601.out⟩ (fun hHeld => ?_); refine with_tabW spec_l11Copy.tab1 spec_l11Copy.bits1 (fun HT_ HW_ => ?_)
 generalize w4.drew = w5 at BK601 BK602 HB hHeld ⊢
 refine pt_ 1 4 2 ?_
 refine pt_ 4 7 18 ?_
 refine tt_ 2 5 22 ?_
 refine tt_ 5 8 54 ?_
 refine one_ (i := 0) (N := some 3) (lz_ 8 55) rfl rfl (one_of HT_.out (by kernel_rfl)) (by decide) (fun K hK => ?_)
 refine Kd.R_lit_step Kd.string _ 9 ?hg (N := 3) ?hd (xs := ([] : List ByteArray)) (inner := []) (ok := fun _ => True) (okp := fun _ => True) ?hr ?hp (fun _ hk => hk) trivial (Below.refl _ _) (Nat.le_refl _) (by simp) ?_; (case hd => rfl); (case hg => rfl); (case hr => first | (go_simp; done) | (go_simp; rfl)); (case hp => exact (Reps.none _ _))
 intro v604 w6 ho7 hb hg_ hnew_
 clear hg_ hnew_
 (first | rw [← Ny603.out] at ho7 | (simp only [Int.reduceToNat] at ho7; rw [← Ny603.out] at ho7))
 have HO605 := Aside0.mk (Kd.R_lower ho7 (sz_ HB))
 replace BK601 := kl_ BK601 hb
 replace BK602 := kl_ BK602 hb
 replace HB := ss_ HB hb
 clear hb ho7
 refine hK.out _ _ ⟨bc0_ BK601.out, bc1_ BK601.out, bc2_ BK601.out⟩ (fun hHeld => ?_)
 clear hK K
 refine no_ 3 ?_
 refine one_ (i := 3) (N := some 6) (lz_ 8 63) rfl rfl (one_of HT_.out (by kernel_rfl)) (by decide) (fun K hK => ?_)
 refine Kd.R_append_rows_step Kd.string (w0 := w) w.heap.size (by rfl) (.tmp 3) (.tmp 5) 24 9 (.string ⟨#[]⟩) 16 rfl Try.underlying24 info9 rfl (by decide) (by omega) v604 y603 l0_0 _ _ _ (fun _ => True) (fun _ => False) rfl rfl ?aO ?aR (fun _ _ h => h) (fun _ h => h.elim) ?aF ?aB ?aS ?aL ?_
 (case aR => exact cb_ HR0_0 HB)
 (case aB => exact (bw_ HB))
 (case aF => exact (fun _ _ => trivial))
 (case aO => exact (kr_ HO605.out))
 (case aS => exact (sz_ HB))
 (case aL => have := LMc2.out; omega)
 intro v607 w8 ho hb hg hat
 rw [← Ny606.out] at ho
 replace BK601 := kg_ BK601 HO605 hg
 replace BK602 := kg_ BK602 HO605 hg
 replace HB := Aside0.mk hb
 have HO608 := Aside0.mk ho
 clear HO605
 clear ho hb hg hat
 obtain ⟨Ao9, co9, eo9⟩ := Kd.R_slice HO608.out
 (first | subst eo9 | (injection eo9 with f1_ f2_ f3_; have f4_ := f1_.symm; have f5_ := f3_.symm; clear f1_ f2_ f3_; subst f4_; subst f5_))
 refine hK.out _ _ ⟨bc0_ BK601.out, bc1_ BK601.out, bc2_ BK601.out⟩ (fun hHeld => ?_)
 clear hK K
 refine no_ 6 ?_
 refine pt_ 6 9 127 ?_
 refine one_ (i := 7) (N := none) (lz_ 8 255) rfl rfl (one_of HT_.out (by kernel_rfl)) (by decide) (fun K hK => ?_)
 have hs10 := bc0_ BK602.out
 have hfs10 := blk_frozen BK602.out 0
 have hns10_0 := NB601_602.out
 have hms10_0 := NB602_601.out
 have hs11 := bc1_ BK602.out
 have hfs11 := blk_frozen BK602.out 1
 have hns11_0 := NB601_602.out
 have hms11_0 := NB602_601.out
 have hs12 := bc2_ BK602.out
 have hfs12 := blk_frozen BK602.out 2
 have hns12_0 := NB601_602.out
 have hms12_0 := NB602_601.out
 refine skip_ (w1 := ?_) (by rfl) rfl ?_ ?_
 rotate_left
 ·go_simp
  rfl
 refine hK.out _ _ ⟨((cell_far (p := ⟨gb602, _, none⟩) NB601_602.out _).trans (((cell_far (p := ⟨gb602, _, none⟩) NB601_602.out _).trans (((cell_far (p := ⟨gb602, _, none⟩) NB601_602.out _).trans (hHeld.1)))))), ((cell_far (p := ⟨gb602, _, none⟩) NB601_602.out _).trans (((cell_far (p := ⟨gb602, _, none⟩) NB601_602.out _).trans (((cell_far (p := ⟨gb602, _, none⟩) NB601_602.out _).trans (hHeld.2.1)))))), ((cell_far (p := ⟨gb602, _, none⟩) NB601_602.out _).trans (((cell_far (p := ⟨gb602, _, none⟩) NB601_602.out _).trans (((cell_far (p := ⟨gb602, _, none⟩) NB601_602.out _).trans (hHeld.2.2))))))⟩ (fun hHeld => ?_)
 clear hK K
 refine done_ (done_of HT_.out (by kernel_rfl)) ?_
 try go_wp2
 refine bodyPost_ret (results_cell_row rfl _ _ gb602 31 #[.slice Ao9 y606.length co9, .int .i64 a0_1, .string a0_2] (0, 0) _ rfl (by exact kq_ BK602) Try.underlying31 rfl (by kernel_rfl)) rfl ?_
 exact ⟨_, e2_, by (with_reducible repeat (first | apply Kd.R_alloc | apply Kd.R_drewN | apply Kd.R_drew)); exact Kd.R_mono (Kd.R_far (p := ⟨gb602, 2, none⟩) (Kd.R_far (p := ⟨gb602, 1, none⟩) (Kd.R_far (p := ⟨gb602, 0, none⟩) (Kd.R_types HO608.out BK602.out (by decide)) (fun _ hk => hk.2) (.slice Ao9 y606.length co9)) (fun _ hk => hk.2) (.int .i64 a0_1)) (fun _ hk => hk.2) (.string a0_2)) (fun _ hk => trivial), bw_ HB⟩
end Go.Proofs.Ytjnnglphdaemaaa.Q
end

section
-- Written by a program of this session (wip/tools/pp.sh) over the print of the kit.
namespace Go.Proofs.Ytjnnglphdaemaaa.Q
open Go.RowKit Go.Proofs.YtjnnglphdaemaaaW.PrintWords Go.Proofs.YtjnnglphdaemaaaW.PrintLast Go.Proofs.YtjnnglphdaemaaaW.PrintMore
attribute [local go_sem] max2_int min2_int max_two min_two max_three min_three max_four min_four   -- for this text's walks alone
set_option linter.unusedVariables false
set_option linter.unusedSimpArgs false
def spec_l12Copy.f (l0_0 : List ByteArray) (a0_1 : Int) (a0_2 : ByteArray) (l0_3 : List Int) (a0_4 : Int) : Option (List ByteArray × Int × ByteArray × List Int × Int) := (spec_l11Copy.f l0_0 a0_1 a0_2).bind fun bt603 => ((some (([] : List Int) : List Int)).bind fun y608 => (if y608.length + l0_3.length < 140737488355328 then (some (bt603.1, bt603.2.1, bt603.2.2, (y608 ++ l0_3), a0_4)) else (none)))
def spec_l12Copy.T1 : Bool × List (List Nat × List Nat) := (true, [([], []), ([0], [0]), ([1], [1]), ([], []), ([], []), ([4], [4]), ([3, 5, 2], [3, 5]), ([], []), ([7], [7]), ([2, 6, 8], [2, 6, 8]), ([9, 6, 0, 1, 2, 3, 4, 5, 6, 7, 8, 9], [9])])
def spec_l12Copy.B1 : List Nat := [0, 1, 3, 0, 0, 16, 63, 0, 128, 511, 1023]
theorem spec_l12Copy.tab1 : rtab .any (opsOf Try.f87 1) = spec_l12Copy.T1 := by kernel_rfl
theorem spec_l12Copy.bits1 : waitsOk spec_l12Copy.T1.2 spec_l12Copy.B1 = true := by kernel_rfl
set_option maxHeartbeats 8000000 in
set_option maxRecDepth 100000 in
theorem spec_l12Copy.calls (A0_0 : Option Addr) (c0_0 : Nat) (l0_0 : List ByteArray) (a0_1 : Int) (a0_2 : ByteArray) (A0_3 : Option Addr) (c0_3 : Nat) (l0_3 : List Int) (a0_4 : Int) (r1 : List ByteArray) (r2 : Int) (r3 : ByteArray) (r4 : List Int) (r5 : Int) (w : World) (hr0_0 : Kd.C Kd.string w A0_0 l0_0.length l0_0) (hc0_0 : l0_0.length ≤ c0_0) (hr0_3 : Kd.C (Kd.int .u8) w A0_3 l0_3.length l0_3) (hc0_3 : l0_3.length ≤ c0_3) (h : spec_l12Copy.f l0_0 a0_1 a0_2 l0_3 a0_4 = some (r1, r2, r3, r4, r5)) :
  Calls Try.prog 87 #[.agg #[.slice A0_0 l0_0.length c0_0, .int .i64 a0_1, .string a0_2, .slice A0_3 l0_3.length c0_3, .int .i64 a0_4]] w fun e w' => ∃ v0_ v3_ : Value, e = .returned (.agg #[v0_, .int .i64 r2, .string r3, v3_, .int .i64 r5]) ∧ Kd.R Kd.string 9 w' w.heap.size (fun _ => True) v0_ r1 ∧ Kd.R (Kd.int .u8) 5 w' w.heap.size (fun _ => True) v3_ r4 ∧ Below w.heap.size w w' := by
 have hu37 := Try.underlying37
 have hu31 := Try.underlying31
 have HR0_0 := Aside0.mk hr0_0
 have HC0_0 := Aside0.mk hc0_0
 clear hr0_0 hc0_0
 have HR0_3 := Aside0.mk hr0_3
 have HC0_3 := Aside0.mk hc0_3
 clear hr0_3 hc0_3
 have HB := Aside0.mk (Below.refl w.heap.size w)
 have H : ((spec_l11Copy.f l0_0 a0_1 a0_2).bind fun bt603 => ((some (([] : List Int) : List Int)).bind fun y608 => (if y608.length + l0_3.length < 140737488355328 then (some (bt603.1, bt603.2.1, bt603.2.2, (y608 ++ l0_3), a0_4)) else (none)))) = some (r1, r2, r3, r4, r5) := h
 clear h
 replace H := bi_ H; obtain ⟨⟨t603, t606, t607⟩, A2, H⟩ := H
 dsimp only at H
 obtain ⟨y608, Ny608, H⟩ := sb_ (([] : List Int)) H
 replace H := ip_ H; obtain ⟨c3, H⟩ := H
 have LMc3 := Aside0.mk c3
 clear c3
 obtain ⟨y611, hy611⟩ : ∃ y_ : List Int, y_ = (y608 ++ l0_3) := ⟨_, rfl⟩
 replace H : (some (t603, t606, t607, y611, a0_4)) = some (r1, r2, r3, r4, r5) := yh_ hy611 H
 have Ny611 := Aside0.mk hy611
 clear hy611
 replace H := so5_ H; obtain ⟨rfl, rfl, rfl, rfl, rfl⟩ := H
 go_enter Try.func87, Try.ntmps87
 try go_wp2_with (first | ((with_reducible refine gd_ 1 ?_); refine bx_ 1 37 #[.slice A0_0 l0_0.length c0_0, .int .i64 a0_1, .string a0_2, .slice A0_3 l0_3.length c0_3, .int .i64 a0_4] ?_; intro gb601 hg w4 hbox hb; have BK601 := Aside0.mk hbox; have GW601 := gg_ hg HB; have GE601 := GW601; replace HB := ss_ HB hb; clear hb hbox hg) | ((with_reducible refine gd_ 2 ?_); refine bx_ 2 37 #[.slice none 0 0, .int .i64 0, .string (⟨#[]⟩ : ByteArray), .slice none 0 0, .int .i64 0] ?_; intro gb602 hg w5 hbox hb; have BK602 := Aside0.mk hbox; have GW602 := gg_ hg HB; have GE602 := GW602; replace HB := ss_ HB hb; have NB601_602 := nla_ hg BK601; have NB602_601 := nga_ hg BK601; replace BK601 := kl_ BK601 hb; clear hb hbox hg))
 replace BK601 := Aside0.mk (blk_drew BK601.out)
 replace BK602 := Aside0.mk (blk_drew BK602.out)
 replace HB := Aside0.mk (below_drew1 HB.out)
 refine start_ (n := 11) (S := fun w' => w'.cell? ⟨gb601, 0, none⟩ = some (.slice A0_0 l0_0.length c0_0) ∧ w'.cell? ⟨gb601, 1, none⟩ = some (.int .i64 a0_1) ∧ w'.cell? ⟨gb601, 2, none⟩ = some (.string a0_2) ∧ w'.cell? ⟨gb601, 3, none⟩ = some (.slice A0_3 l0_3.length c0_3) ∧ w'.cell? ⟨gb601, 4, none⟩ = some (.int .i64 a0_4)) (ds := []) (lz_ 11 0) (by kernel_rfl) rfl rfl ⟨bc0_ BK601.out, bc1_ BK601.out, bc2_ BK601.out, bc3_ BK601.out, bc4_ BK601.out⟩ (fun hHeld => ?_); refine with_tabW spec_l12Copy.tab1 spec_l12Copy.bits1 (fun HT_ HW_ => ?_)
 generalize w5.drew = w6 at BK601 BK602 HB hHeld ⊢
 refine pt_ 0 3 1 ?_
 refine pt_ 4 7 17 ?_
 refine pt_ 7 10 145 ?_
 refine tt_ 1 4 147 ?_
 refine tt_ 5 8 179 ?_
 refine tt_ 8 11 435 ?_
 refine join_ (σ := Value × Value) 3 (lz_ 11 447) (fun s_ => [(5, .agg #[s_.1, .int .i64 t606, .string t607]), (6, s_.2)]) (fun s_ w' => (w'.cell? ⟨gb601, 0, none⟩ = some (.slice A0_0 l0_0.length c0_0) ∧ w'.cell? ⟨gb601, 1, none⟩ = some (.int .i64 a0_1) ∧ w'.cell? ⟨gb601, 2, none⟩ = some (.string a0_2) ∧ w'.cell? ⟨gb601, 3, none⟩ = some (.slice A0_3 l0_3.length c0_3) ∧ w'.cell? ⟨gb601, 4, none⟩ = some (.int .i64 a0_4)) ∧ (Kd.R Kd.string 9 w' w.heap.size (fun _ => True) s_.1 t603) ∧ (Kd.R (Kd.int .u8) 5 w' w.heap.size (fun _ => True) s_.2 y608) ∧ (w'.heap[gb601]? = some (.cells #[.slice A0_0 l0_0.length c0_0, .int .i64 a0_1, .string a0_2, .slice A0_3 l0_3.length c0_3, .int .i64 a0_4] 37 (0, 0))) ∧ (w'.heap[gb602]? = some (.cells #[.slice none 0 0, .int .i64 0, .string (⟨#[]⟩ : ByteArray), .slice none 0 0, .int .i64 0] 37 (0, 0))) ∧ (Below w.heap.size w w')) ?_ ?_
 rotate_left
 ·intro hCont
  refine two_ (i := 2) (j := 3) (Ni := some 5) (Nj := some 6) (lz_ 11 439) (lz_ 11 443) rfl rfl rfl rfl (two_of HT_.out (by kernel_rfl)) (by decide) (by decide) (fun K hK => ?_) (fun K hK => ?_)
  ·skip
   refine ge_ Try.func76 #[.agg #[.slice A0_0 l0_0.length c0_0, .int .i64 a0_1, .string a0_2]] ?_
   with_reducible refine (spec_l11Copy.calls _ _ l0_0 a0_1 a0_2 t603 t606 t607 _ ?side1 ?side2 A2.out).mono ?_
   (case side1 => exact cb_ HR0_0 HB)
   (case side2 => exact HC0_0.out)
   rintro e w7 ⟨v604, rfl, ho0, hb⟩
   refine ⟨_, rfl, ?_⟩
   have HO605 := Aside0.mk (Kd.R_lower ho0 (sz_ HB))
   replace BK601 := kl_ BK601 hb
   replace BK602 := kl_ BK602 hb
   replace HB := ss_ HB hb
   clear hb ho0
   refine hK.out _ _ ⟨bc0_ BK601.out, bc1_ BK601.out, bc2_ BK601.out, bc3_ BK601.out, bc4_ BK601.out⟩ (fun hHeld => ?_)
   clear hK K
   refine no_ 5 ?_
   refine one_ (i := 3) (N := some 6) (lz_ 11 447) rfl rfl (one_of HT_.out (by kernel_rfl)) (by decide) (fun K hK => ?_)
   refine Kd.R_lit_step (Kd.int .u8) _ 5 ?hg (N := 6) ?hd (xs := ([] : List Int)) (inner := []) (ok := fun _ => True) (okp := fun _ => True) ?hr ?hp (fun _ hk => hk) trivial (Below.refl _ _) (Nat.le_refl _) (by simp) ?_; (case hd => rfl); (case hg => rfl); (case hr => first | (go_simp; done) | (go_simp; rfl)); (case hp => exact (Reps.none _ _))
   intro v609 w8 ho9 hb hg_ hnew_
   clear hg_ hnew_
   (first | rw [← Ny608.out] at ho9 | (simp only [Int.reduceToNat] at ho9; rw [← Ny608.out] at ho9))
   replace HO605 := rb_ HO605 hb
   have HO610 := Aside0.mk (Kd.R_lower ho9 (sz_ HB))
   replace BK601 := kl_ BK601 hb
   replace BK602 := kl_ BK602 hb
   replace HB := ss_ HB hb
   clear hb ho9
   refine hK.out _ _ ⟨bc0_ BK601.out, bc1_ BK601.out, bc2_ BK601.out, bc3_ BK601.out, bc4_ BK601.out⟩ (fun hHeld => ?_)
   clear hK K
   refine no_ 6 ?_
   exact norm_ (by simp only [putAll, Act.put, List.setIfInBounds_toArray, List.set_cons_zero, List.set_cons_succ]) (hCont (v604, v609) _ ⟨hHeld, (kr_ HO605.out), (kr_ HO610.out), (kb_ BK601.out), (kb_ BK602.out), (bw_ HB)⟩)
  ·skip
   refine Kd.R_lit_step (Kd.int .u8) _ 5 ?hg (N := 6) ?hd (xs := ([] : List Int)) (inner := []) (ok := fun _ => True) (okp := fun _ => True) ?hr ?hp (fun _ hk => hk) trivial (Below.refl _ _) (Nat.le_refl _) (by simp) ?_; (case hd => rfl); (case hg => rfl); (case hr => first | (go_simp; done) | (go_simp; rfl)); (case hp => exact (Reps.none _ _))
   intro v609 w7 ho8 hb hg_ hnew_
   clear hg_ hnew_
   (first | rw [← Ny608.out] at ho8 | (simp only [Int.reduceToNat] at ho8; rw [← Ny608.out] at ho8))
   have HO610 := Aside0.mk (Kd.R_lower ho8 (sz_ HB))
   replace BK601 := kl_ BK601 hb
   replace BK602 := kl_ BK602 hb
   replace HB := ss_ HB hb
   clear hb ho8
   refine hK.out _ _ ⟨bc0_ BK601.out, bc1_ BK601.out, bc2_ BK601.out, bc3_ BK601.out, bc4_ BK601.out⟩ (fun hHeld => ?_)
   clear hK K
   refine no_ 6 ?_
   refine one_ (i := 2) (N := some 5) (lz_ 11 447) rfl rfl (one_of HT_.out (by kernel_rfl)) (by decide) (fun K hK => ?_)
   refine ge_ Try.func76 #[.agg #[.slice A0_0 l0_0.length c0_0, .int .i64 a0_1, .string a0_2]] ?_
   with_reducible refine (spec_l11Copy.calls _ _ l0_0 a0_1 a0_2 t603 t606 t607 _ ?side1 ?side2 A2.out).mono ?_
   (case side1 => exact cb_ HR0_0 HB)
   (case side2 => exact HC0_0.out)
   rintro e w9 ⟨v604, rfl, ho0, hb⟩
   refine ⟨_, rfl, ?_⟩
   replace HO610 := rb_ HO610 hb
   have HO605 := Aside0.mk (Kd.R_lower ho0 (sz_ HB))
   replace BK601 := kl_ BK601 hb
   replace BK602 := kl_ BK602 hb
   replace HB := ss_ HB hb
   clear hb ho0
   refine hK.out _ _ ⟨bc0_ BK601.out, bc1_ BK601.out, bc2_ BK601.out, bc3_ BK601.out, bc4_ BK601.out⟩ (fun hHeld => ?_)
   clear hK K
   refine no_ 5 ?_
   exact norm_ (by simp only [putAll, Act.put, List.setIfInBounds_toArray, List.set_cons_zero, List.set_cons_succ]) (hCont (v604, v609) _ ⟨hHeld, (kr_ HO605.out), (kr_ HO610.out), (kb_ BK601.out), (kb_ BK602.out), (bw_ HB)⟩)
 rintro ⟨v604, v609⟩ w10 ⟨hS_, h0_, h1_, h2_, h3_, h4_⟩
 have n0_ : Aside0 (Kd.R Kd.string 9 w10 w.heap.size (fun _ => True) v604 t603) := ⟨h0_⟩
 have n1_ : Aside0 (Kd.R (Kd.int .u8) 5 w10 w.heap.size (fun _ => True) v609 y608) := ⟨h1_⟩
 have n2_ : Aside0 (w10.heap[gb601]? = some (.cells #[.slice A0_0 l0_0.length c0_0, .int .i64 a0_1, .string a0_2, .slice A0_3 l0_3.length c0_3, .int .i64 a0_4] 37 (0, 0))) := ⟨h2_⟩
 have n3_ : Aside0 (w10.heap[gb602]? = some (.cells #[.slice none 0 0, .int .i64 0, .string (⟨#[]⟩ : ByteArray), .slice none 0 0, .int .i64 0] 37 (0, 0))) := ⟨h3_⟩
 have n4_ : Aside0 (Below w.heap.size w w10) := ⟨h4_⟩
 clear BK601
 clear BK602
 clear HB
 clear h0_ h1_ h2_ h3_ h4_
 have HO605 := n0_
 have HO610 := n1_
 have BK601 := n2_
 have BK602 := n3_
 have HB := n4_
 clear n0_ n1_ n2_ n3_ n4_
 have hHeld : w10.cell? ⟨gb601, 0, none⟩ = some (.slice A0_0 l0_0.length c0_0) ∧ w10.cell? ⟨gb601, 1, none⟩ = some (.int .i64 a0_1) ∧ w10.cell? ⟨gb601, 2, none⟩ = some (.string a0_2) ∧ w10.cell? ⟨gb601, 3, none⟩ = some (.slice A0_3 l0_3.length c0_3) ∧ w10.cell? ⟨gb601, 4, none⟩ = some (.int .i64 a0_4) := hS_
 refine norm_ (a' := ?_) ?_ ?_
 rotate_left
 ·simp only [putAll, Act.put, List.setIfInBounds_toArray, List.set_cons_zero, List.set_cons_succ]
  rfl
 refine one_ (i := 6) (N := some 9) (lz_ 11 511) rfl rfl (one_of HT_.out (by kernel_rfl)) (by decide) (fun K hK => ?_)
 refine Kd.R_append_rows_step (Kd.int .u8) (w0 := w) w.heap.size (by rfl) (.tmp 6) (.tmp 8) 22 5 (.int .u8 0) 1 rfl Try.underlying22 info5 rfl (by decide) (by omega) v609 y608 l0_3 _ _ _ (fun _ => True) (fun _ => False) rfl rfl ?aO ?aR (fun _ _ h => h) (fun _ h => h.elim) ?aF ?aB ?aS ?aL ?_
 (case aR => exact cb_ HR0_3 HB)
 (case aB => exact (bw_ HB))
 (case aF => exact (fun _ _ => trivial))
 (case aO => exact (kr_ HO610.out))
 (case aS => exact (sz_ HB))
 (case aL => have := LMc3.out; omega)
 intro v612 w11 ho hb hg hat
 rw [← Ny611.out] at ho
 replace BK601 := kg_ BK601 HO610 hg
 replace BK602 := kg_ BK602 HO610 hg
 replace HO605 := Aside0.mk (Kd.R_over' (kr_ HO605.out) (Kd.R_typed (kr_ HO610.out)) (by decide) hg)
 replace HB := Aside0.mk hb
 have HO613 := Aside0.mk ho
 clear HO610
 clear ho hb hg hat
 obtain ⟨Ao12, co12, eo12⟩ := Kd.R_slice HO613.out
 (first | subst eo12 | (injection eo12 with f1_ f2_ f3_; have f4_ := f1_.symm; have f5_ := f3_.symm; clear f1_ f2_ f3_; subst f4_; subst f5_))
 obtain ⟨Ao13, co13, eo13⟩ := Kd.R_slice HO605.out
 (first | subst eo13 | (injection eo13 with f1_ f2_ f3_; have f4_ := f1_.symm; have f5_ := f3_.symm; clear f1_ f2_ f3_; subst f4_; subst f5_))
 refine hK.out _ _ ⟨bc0_ BK601.out, bc1_ BK601.out, bc2_ BK601.out, bc3_ BK601.out, bc4_ BK601.out⟩ (fun hHeld => ?_)
 clear hK K
 refine no_ 9 ?_
 refine pt_ 9 12 1023 ?_
 refine one_ (i := 10) (N := none) (lz_ 11 2047) rfl rfl (one_of HT_.out (by kernel_rfl)) (by decide) (fun K hK => ?_)
 have hs14 := bc0_ BK602.out
 have hfs14 := blk_frozen BK602.out 0
 have hns14_0 := NB601_602.out
 have hms14_0 := NB602_601.out
 have hs15 := bc1_ BK602.out
 have hfs15 := blk_frozen BK602.out 1
 have hns15_0 := NB601_602.out
 have hms15_0 := NB602_601.out
 have hs16 := bc2_ BK602.out
 have hfs16 := blk_frozen BK602.out 2
 have hns16_0 := NB601_602.out
 have hms16_0 := NB602_601.out
 have hs17 := bc3_ BK602.out
 have hfs17 := blk_frozen BK602.out 3
 have hns17_0 := NB601_602.out
 have hms17_0 := NB602_601.out
 have hs18 := bc4_ BK602.out
 have hfs18 := blk_frozen BK602.out 4
 have hns18_0 := NB601_602.out
 have hms18_0 := NB602_601.out
 refine skip_ (w1 := ?_) (by rfl) rfl ?_ ?_
 rotate_left
 ·go_simp
  rfl
 refine hK.out _ _ ⟨((cell_far (p := ⟨gb602, _, none⟩) NB601_602.out _).trans (((cell_far (p := ⟨gb602, _, none⟩) NB601_602.out _).trans (((cell_far (p := ⟨gb602, _, none⟩) NB601_602.out _).trans (((cell_far (p := ⟨gb602, _, none⟩) NB601_602.out _).trans (((cell_far (p := ⟨gb602, _, none⟩) NB601_602.out _).trans (hHeld.1)))))))))), ((cell_far (p := ⟨gb602, _, none⟩) NB601_602.out _).trans (((cell_far (p := ⟨gb602, _, none⟩) NB601_602.out _).trans (((cell_far (p := ⟨gb602, _, none⟩) NB601_602.out _).trans (((cell_far (p := ⟨gb602, _, none⟩) NB601_602.out _).trans (((cell_far (p := ⟨gb602, _, none⟩) NB601_602.out _).trans (hHeld.2.1)))))))))), ((cell_far (p := ⟨gb602, _, none⟩) NB601_602.out _).trans (((cell_far (p := ⟨gb602, _, none⟩) NB601_602.out _).trans (((cell_far (p := ⟨gb602, _, none⟩) NB601_602.out _).trans (((cell_far (p := ⟨gb602, _, none⟩) NB601_602.out _).trans (((cell_far (p := ⟨gb602, _, none⟩) NB601_602.out _).trans (hHeld.2.2.1)))))))))), ((cell_far (p := ⟨gb602, _, none⟩) NB601_602.out _).trans (((cell_far (p := ⟨gb602, _, none⟩) NB601_602.out _).trans (((cell_far (p := ⟨gb602, _, none⟩) NB601_602.out _).trans (((cell_far (p := ⟨gb602, _, none⟩) NB601_602.out _).trans (((cell_far (p := ⟨gb602, _, none⟩) NB601_602.out _).trans (hHeld.2.2.2.1)))))))))), ((cell_far (p := ⟨gb602, _, none⟩) NB601_602.out _).trans (((cell_far (p := ⟨gb602, _, none⟩) NB601_602.out _).trans (((cell_far (p := ⟨gb602, _, none⟩) NB601_602.out _).trans (((cell_far (p := ⟨gb602, _, none⟩) NB601_602.out _).trans (((cell_far (p := ⟨gb602, _, none⟩) NB601_602.out _).trans (hHeld.2.2.2.2))))))))))⟩ (fun hHeld => ?_)
 clear hK K
 refine done_ (done_of HT_.out (by kernel_rfl)) ?_
 try go_wp2
 refine bodyPost_ret (results_cell_row rfl _ _ gb602 37 #[.slice Ao13 t603.length co13, .int .i64 t606, .string t607, .slice Ao12 y611.length co12, .int .i64 a0_4] (0, 0) _ rfl (by exact kq_ BK602) Try.underlying37 rfl (by kernel_rfl)) rfl ?_
 exact ⟨_, _, e2_, by (with_reducible repeat (first | apply Kd.R_alloc | apply Kd.R_drewN | apply Kd.R_drew)); exact Kd.R_mono (Kd.R_far (p := ⟨gb602, 4, none⟩) (Kd.R_far (p := ⟨gb602, 3, none⟩) (Kd.R_far (p := ⟨gb602, 2, none⟩) (Kd.R_far (p := ⟨gb602, 1, none⟩) (Kd.R_far (p := ⟨gb602, 0, none⟩) (Kd.R_types HO605.out BK602.out (by decide)) (fun _ hk => hk.2) (.slice Ao13 t603.length co13)) (fun _ hk => hk.2) (.int .i64 t606)) (fun _ hk => hk.2) (.string t607)) (fun _ hk => hk.2) (.slice Ao12 y611.length co12)) (fun _ hk => hk.2) (.int .i64 a0_4)) (fun _ hk => trivial), by (with_reducible repeat (first | apply Kd.R_alloc | apply Kd.R_drewN | apply Kd.R_drew)); exact Kd.R_mono (Kd.R_far (p := ⟨gb602, 4, none⟩) (Kd.R_far (p := ⟨gb602, 3, none⟩) (Kd.R_far (p := ⟨gb602, 2, none⟩) (Kd.R_far (p := ⟨gb602, 1, none⟩) (Kd.R_far (p := ⟨gb602, 0, none⟩) (Kd.R_types HO613.out BK602.out (by decide)) (fun _ hk => hk.2) (.slice Ao13 t603.length co13)) (fun _ hk => hk.2) (.int .i64 t606)) (fun _ hk => hk.2) (.string t607)) (fun _ hk => hk.2) (.slice Ao12 y611.length co12)) (fun _ hk => hk.2) (.int .i64 a0_4)) (fun _ hk => trivial), bw_ HB⟩
end Go.Proofs.Ytjnnglphdaemaaa.Q
end

section
/- What copies of logs and stores return, the program's and the reference's. -/
namespace Go.Proofs.Ytjnnglphdaemaaa.Q
open Go.RowKit Go.Proofs.Ytjnnglphdaemaaa.B Go.Proofs.YtjnnglphdaemaaaW.PrintWords
theorem impl_copyLog_eq (l : List ByteArray) (n : Int) (s : ByteArray) (hl : l.length < 8796093022208) : impl_copyLog.f l n s = some (l, n, s) := by
  unfold impl_copyLog.f slices_Clone_string_string.f
  rw [if_pos (by omega)]
  rfl
theorem impl_copyStore_eq (l : List ByteArray) (n : Int) (s : ByteArray) (b : List Int) (u : Int) (hl : l.length < 8796093022208) (hb : b.length < 140737488355328) : impl_copyStore.f l n s b u = some (l, n, s, b, u) := by
  unfold impl_copyStore.f slices_Clone_byte_byte.f
  rw [impl_copyLog_eq l n s hl, if_pos (show b.length ≤ 140737488355328 by omega)]
  rfl
theorem spec_l11Copy_eq (l : List ByteArray) (n : Int) (s : ByteArray) (hl : l.length < 8796093022208) : spec_l11Copy.f l n s = some (l, n, s) := by
  unfold spec_l11Copy.f
  simp only [Option.bind_some, List.length_nil, List.nil_append]
  rw [if_pos (by omega)]
theorem spec_l12Copy_eq (l : List ByteArray) (n : Int) (s : ByteArray) (b : List Int) (u : Int) (hl : l.length < 8796093022208) (hb : b.length < 140737488355328) : spec_l12Copy.f l n s b u = some (l, n, s, b, u) := by
  unfold spec_l12Copy.f
  rw [spec_l11Copy_eq l n s hl]
  simp only [Option.bind_some, List.length_nil, List.nil_append]
  rw [if_pos (by omega)]
end Go.Proofs.Ytjnnglphdaemaaa.Q
end

section
-- Written by a program of this session (wip/tools/pp.sh) over the print of the kit.
namespace Go.Proofs.Ytjnnglphdaemaaa.Q
open Go.RowKit Go.Proofs.YtjnnglphdaemaaaW.PrintWords Go.Proofs.YtjnnglphdaemaaaW.PrintLast Go.Proofs.YtjnnglphdaemaaaW.PrintMore
attribute [local go_sem] max2_int min2_int max_two min_two max_three min_three max_four min_four   -- for this text's walks alone
set_option linter.unusedVariables false
set_option linter.unusedSimpArgs false
def bits_RotateLeft32.f (a0 : Int) (a1 : Int) : Option (Int) := if 0 ≤ (Go.bits .and .u64 (IntKind.u64.wrap (a1)) 31) then (if 0 ≤ (IntKind.u64.wrap (32 - (Go.bits .and .u64 (IntKind.u64.wrap (a1)) 31))) then (some (Go.bits .or .u32 (shl .u32 a0 (Go.bits .and .u64 (IntKind.u64.wrap (a1)) 31)) (shr .u32 a0 (IntKind.u64.wrap (32 - (Go.bits .and .u64 (IntKind.u64.wrap (a1)) 31)))))) else (none)) else (none)
set_option maxHeartbeats 8000000 in
set_option maxRecDepth 100000 in
theorem bits_RotateLeft32.calls (a0 : Int) (a1 : Int) (r : Int) (w : World) (h : bits_RotateLeft32.f a0 a1 = some r) :
  Calls Try.prog 142 #[.int .u32 a0, .int .i64 a1] w fun e w' => e = .returned (.int .u32 r) ∧ Drawn0 w w' := by
 have H : (if 0 ≤ (Go.bits .and .u64 (IntKind.u64.wrap (a1)) 31) then (if 0 ≤ (IntKind.u64.wrap (32 - (Go.bits .and .u64 (IntKind.u64.wrap (a1)) 31))) then (some (Go.bits .or .u32 (shl .u32 a0 (Go.bits .and .u64 (IntKind.u64.wrap (a1)) 31)) (shr .u32 a0 (IntKind.u64.wrap (32 - (Go.bits .and .u64 (IntKind.u64.wrap (a1)) 31)))))) else (none)) else (none)) = some r := h
 clear h
 generalize hji3 : (Go.bits .and .u64 (IntKind.u64.wrap (a1)) 31) = ji3 at H
 replace H := ip_ H; obtain ⟨c4, H⟩ := H
 have c4b0 := eq_true c4
 have c4b1 := decide_eq_true c4
 clear c4
 generalize hji5 : (shl .u32 a0 (ji3)) = ji5 at H
 have hji5_ : (IntKind.u32.wrap (a0 * 2 ^ min (ji3).toNat 32)) = ji5 := hji5
 have hji5z : (ji3) ≤ 32 → (IntKind.u32.wrap (a0 * 2 ^ (ji3).toNat)) = ji5 := shl_small hji5
 generalize hji6 : (IntKind.u64.wrap (32 - (ji3))) = ji6 at H
 replace H := ip_ H; obtain ⟨c7, H⟩ := H
 have c7b0 := eq_true c7
 have c7b1 := decide_eq_true c7
 clear c7
 generalize hji8 : (shr .u32 a0 (ji6)) = ji8 at H
 have hji8_ : (a0 / 2 ^ min (ji6).toNat 32) = ji8 := hji8
 have hji8z : (ji6) ≤ 32 → (a0 / 2 ^ (ji6).toNat) = ji8 := shr_small hji8
 obtain rfl := Option.some.inj H
 go_enter Try.func142, Try.ntmps142
 go_wp2
 go_ret
 exact ⟨by first | rfl | (simp; done) | (simp only [← hji3, ← hji5, ← hji6, ← hji8] <;> (first | rfl | simp)) | (simp [*]; done), dw_⟩
end Go.Proofs.Ytjnnglphdaemaaa.Q
end

section
/- bits.RotateLeft32 at the ten counts that the digest uses: a turn to the right. -/
namespace Go.Proofs.Ytjnnglphdaemaaa.Q
open Go.RowKit Go.Proofs.YtjnnglphdaemaaaW.PrintWords Go.Proofs.YtjnnglphdaemaaaW.PrintLast Go.Proofs.YtjnnglphdaemaaaW.PrintMore

def rotr (x : Int) (n : Nat) : Int := Go.bits .or .u32 (shl .u32 x (32 - n)) (shr .u32 x n)
theorem rot_of (x k : Int) (n : Nat) (h1 : Go.bits .and .u64 (IntKind.u64.wrap k) 31 = 32 - (n : Int)) (h2 : IntKind.u64.wrap (32 - (32 - (n : Int))) = (n : Int)) (hn : n ≤ 32) : bits_RotateLeft32.f x k = some (rotr x n) := by
  unfold bits_RotateLeft32.f rotr
  rw [h1, h2, if_pos (by omega), if_pos (by omega)]
theorem rot2 (x : Int) : bits_RotateLeft32.f x (-2) = some (rotr x 2) := rot_of x _ 2 (by decide +kernel) (by decide +kernel) (by decide)
theorem rot6 (x : Int) : bits_RotateLeft32.f x (-6) = some (rotr x 6) := rot_of x _ 6 (by decide +kernel) (by decide +kernel) (by decide)
theorem rot7 (x : Int) : bits_RotateLeft32.f x (-7) = some (rotr x 7) := rot_of x _ 7 (by decide +kernel) (by decide +kernel) (by decide)
theorem rot11 (x : Int) : bits_RotateLeft32.f x (-11) = some (rotr x 11) := rot_of x _ 11 (by decide +kernel) (by decide +kernel) (by decide)
theorem rot13 (x : Int) : bits_RotateLeft32.f x (-13) = some (rotr x 13) := rot_of x _ 13 (by decide +kernel) (by decide +kernel) (by decide)
theorem rot17 (x : Int) : bits_RotateLeft32.f x (-17) = some (rotr x 17) := rot_of x _ 17 (by decide +kernel) (by decide +kernel) (by decide)
theorem rot18 (x : Int) : bits_RotateLeft32.f x (-18) = some (rotr x 18) := rot_of x _ 18 (by decide +kernel) (by decide +kernel) (by decide)
theorem rot19 (x : Int) : bits_RotateLeft32.f x (-19) = some (rotr x 19) := rot_of x _ 19 (by decide +kernel) (by decide +kernel) (by decide)
theorem rot22 (x : Int) : bits_RotateLeft32.f x (-22) = some (rotr x 22) := rot_of x _ 22 (by decide +kernel) (by decide +kernel) (by decide)
theorem rot25 (x : Int) : bits_RotateLeft32.f x (-25) = some (rotr x 25) := rot_of x _ 25 (by decide +kernel) (by decide +kernel) (by decide)
end Go.Proofs.Ytjnnglphdaemaaa.Q
end

section
/- impl.wordsOf: the 64 words of a block of 64 bytes, in a new array. -/
namespace Go.Proofs.Ytjnnglphdaemaaa.Q
open Go.RowKit Go.Proofs.YtjnnglphdaemaaaW.PrintWords Go.Proofs.YtjnnglphdaemaaaW.PrintLast Go.Proofs.YtjnnglphdaemaaaW.PrintMore
set_option linter.unusedVariables false
set_option linter.unusedSimpArgs false

def be32 (bs : List Int) (i : Nat) : Int := Go.bits .or .u32 (Go.bits .or .u32 (Go.bits .or .u32 (rd bs (4 * (i : Int)) % 4294967296 * 16777216 % 4294967296) (rd bs (4 * (i : Int) + 1) % 4294967296 * 65536 % 4294967296)) (rd bs (4 * (i : Int) + 2) % 4294967296 * 256 % 4294967296)) (rd bs (4 * (i : Int) + 3) % 4294967296)
def wMix (a16 a15 a7 a2 : Int) : Int := (a16 + Go.bits .xor .u32 (Go.bits .xor .u32 (rotr a15 7) (rotr a15 18)) (a15 / 8) + a7 + Go.bits .xor .u32 (Go.bits .xor .u32 (rotr a2 17) (rotr a2 19)) (a2 / 1024)) % 4294967296
def wAt (bs : List Int) : Nat → List Int
  | 0 => List.replicate 64 0
  | i + 1 => (wAt bs i).set i (if i < 16 then be32 bs i else wMix ((wAt bs i).getD (i - 16) 0) ((wAt bs i).getD (i - 15) 0) ((wAt bs i).getD (i - 7) 0) ((wAt bs i).getD (i - 2) 0))
theorem wAt_length (bs : List Int) (i : Nat) : (wAt bs i).length = 64 := by
  induction i with
  | zero => simp [wAt]
  | succ i ih => simp [wAt, ih]
def arrU (ys : List Int) : Array Value := (nums .u32 ys).toArray
theorem arrU_get {ys : List Int} {i : Nat} (h : i < ys.length) : (arrU ys)[i]? = some (.int .u32 (ys.getD i 0)) := by
  simp [arrU, nums, List.getElem?_eq_getElem h, List.getD_eq_getElem?_getD]
theorem arrU_set (ys : List Int) (i : Nat) (v : Int) : (arrU ys).setIfInBounds i (.int .u32 v) = arrU (ys.set i v) := by
  simp [arrU, nums, List.map_set]
theorem bytes_at {w : World} {A : Option Addr} {n : Nat} {bs : List Int} (h : Kd.C (Kd.int .u8) w A n bs) (h0 : 0 < n) : ∃ ad, A = some ad ∧ ad.block < w.heap.size ∧ ∀ i : Nat, i < n → w.cell? (ad.add i) = some (.int .u8 (rd bs i)) := by
  obtain ⟨ad, e, hcell⟩ := h.2.2 h0
  have hl := h.1
  have hby : ∀ i : Nat, i < n → w.cell? (ad.add i) = some (.int .u8 (rd bs i)) := by
    intro i hi
    obtain ⟨x, hx⟩ : ∃ x, bs[i]? = some x := ⟨bs[i], List.getElem?_eq_getElem (by omega)⟩
    obtain ⟨cs, _, hk, hcc⟩ := hcell i x hx
    have hk2 : cs = [.int .u8 x] := hk
    have := hcc 0 (.int .u8 x) (by rw [hk2]; rfl)
    rw [show i * (Kd.int .u8).sz + 0 = i from by simp [Kd.int, Kd.scalar]] at this
    rw [this]
    unfold rd
    simp [List.getD_eq_getElem?_getD, hx]
  have had := World.block_lt_of_cell? w _ (hby 0 h0)
  exact ⟨ad, e, by simpa [Addr.add] using had, hby⟩

set_option maxHeartbeats 4000000 in
set_option maxRecDepth 100000 in
theorem wordsOf_calls (A : Option Addr) (c : Nat) (bs : List Int) (w : World) (hr : Kd.C (Kd.int .u8) w A bs.length bs) (hl : bs.length = 64) :
    Calls Try.prog 141 #[.slice A bs.length c] w fun e w' => ∃ g, e = .returned (.pointer (some ⟨g, 0, none⟩)) ∧ w.heap.size ≤ g ∧ w'.heap[g]? = some (.cells (arrU (wAt bs 64)) 155 (0, 0)) ∧ Below w.heap.size w w' := by
  have HL := Aside0.mk hl
  obtain ⟨ad, rfl, hadl, hby⟩ := bytes_at hr (by omega)
  have HAD := Aside0.mk hadl
  have HBY := Aside0.mk hby
  clear hr hl hby hadl
  go_enter Try.func141, Try.ntmps141
  go_wp2
  go_loopw [10] (fun i W => ∃ k : Nat, k ≤ 16 ∧ i = .int .i64 k ∧ Aside0 (W.heap[w.heap.size]? = some (.cells (arrU (wAt bs k)) 155 (0, 0))) ∧ Aside0 (Below w.heap.size w W)) (fun i _ => 16 - (intOf i).toNat)
  case atStart =>
    refine ⟨0, by omega, rfl, ⟨?_⟩, ⟨(Below.refl _ _).alloc (Nat.le_refl _) _⟩⟩
    rw [blk_new]
    rfl
  case round =>
    obtain ⟨k, hk, rfl, HG, HB⟩ := hrel
    by_cases hlt : k < 16
    · have hb11 : decide ((k : Int) < 16) = true := decide_eq_true (by omega)
      have hblk : ∀ i : Nat, (ad.add i).block = ad.block := fun i => by unfold Addr.add; split <;> rfl
      have hL := HL.out
      have ee : ∀ i : Nat, i < 64 → wr.cell? (ad.add i) = some (.int .u8 (rd bs i)) := fun i hi => (HB.out.cell (by rw [hblk]; exact HAD.out)).trans (HBY.out i (by omega))
      have e0 := ee (4 * k) (by omega)
      have hpl : ∀ i : Nat, ad.add (i + 1) = ⟨ad.block, ad.off + (i + 1), none⟩ := fun i => by unfold Addr.add; rw [if_neg (by omega)]
      have e1' : wr.cell? ⟨ad.block, ad.off + (4 * k + 1), none⟩ = some (.int .u8 (rd bs (4 * (k : Int) + 1))) := by rw [← hpl]; exact ee (4 * k + 1) (by omega)
      have e2' : wr.cell? ⟨ad.block, ad.off + (4 * k + 1 + 1), none⟩ = some (.int .u8 (rd bs (4 * (k : Int) + 2))) := by rw [← hpl]; exact ee (4 * k + 2) (by omega)
      have e3' : wr.cell? ⟨ad.block, ad.off + (4 * k + 2 + 1), none⟩ = some (.int .u8 (rd bs (4 * (k : Int) + 3))) := by rw [← hpl]; exact ee (4 * k + 3) (by omega)
      have e2'' : wr.cell? ⟨ad.block, ad.off + (4 * k + 2), none⟩ = some (.int .u8 (rd bs (4 * (k : Int) + 2))) := e2'
      have e3'' : wr.cell? ⟨ad.block, ad.off + (4 * k + 3), none⟩ = some (.int .u8 (rd bs (4 * (k : Int) + 3))) := e3'
      clear ee hblk hpl
      have hcl : wr.cell? ⟨w.heap.size, k, none⟩ = some (.int .u32 ((wAt bs k).getD k 0)) := (blk_cell HG.out k).trans (arrU_get (by rw [wAt_length]; omega))
      obtain ⟨old, hold⟩ : ∃ old, old = (wAt bs k).getD k 0 := ⟨_, rfl⟩
      rw [← hold] at hcl
      clear hold
      have hfl := blk_frozen HG.out k
      have s0 : IntKind.i64.wrap (4 * (k : Int)) = 4 * (k : Int) := IntWalk.i64_in _ ⟨by omega, by omega⟩
      have s1 : IntKind.i64.wrap (4 * (k : Int) + 1) = 4 * (k : Int) + 1 := IntWalk.i64_in _ ⟨by omega, by omega⟩
      have s2 : IntKind.i64.wrap (4 * (k : Int) + 2) = 4 * (k : Int) + 2 := IntWalk.i64_in _ ⟨by omega, by omega⟩
      have s3 : IntKind.i64.wrap (4 * (k : Int) + 3) = 4 * (k : Int) + 3 := IntWalk.i64_in _ ⟨by omega, by omega⟩
      have p0 : 0 ≤ 4 * (k : Int) := by omega
      have p1 : 0 ≤ 4 * (k : Int) + 1 := by omega
      have p2 : 0 ≤ 4 * (k : Int) + 2 := by omega
      have p3 : 0 ≤ 4 * (k : Int) + 3 := by omega
      have l0 : 4 * (k : Int) < (bs.length : Int) := by omega
      have l1 : 4 * (k : Int) + 1 < (bs.length : Int) := by omega
      have l2 : 4 * (k : Int) + 2 < (bs.length : Int) := by omega
      have l3 : 4 * (k : Int) + 3 < (bs.length : Int) := by omega
      have l4 : (k : Int) < 64 := by omega
      have t0 : (4 * (k : Int)).toNat = 4 * k := by omega
      have t1 : (4 * (k : Int) + 1).toNat = 4 * k + 1 := by omega
      have t2 : (4 * (k : Int) + 2).toNat = 4 * k + 2 := by omega
      have t3 : (4 * (k : Int) + 3).toNat = 4 * k + 3 := by omega
      clear hL
      go_wp2
      go_region
      go_wp2
      go_roundw
      case rel =>
        refine ⟨k + 1, by omega, by go_num, ⟨?_⟩, ⟨HB.out.drew.setCell (Nat.le_refl _) _⟩⟩
        have hs := blk_set (blk_drew HG.out) k (.int .u32 (be32 bs k))
        rw [arrU_set] at hs
        rw [show wAt bs (k + 1) = (wAt bs k).set k (be32 bs k) from by simp [wAt, hlt]]
        exact hs
      case measure => simp [intOf]; omega
    · obtain rfl : k = 16 := by omega
      have hb11 : decide (((16 : Nat) : Int) < 16) = false := by decide
      obtain ⟨wo, rfl⟩ : ∃ wo : World, wo = wr := ⟨_, rfl⟩
      go_wp2
      go_loopw [5] (fun i W => ∃ k : Nat, 16 ≤ k ∧ k ≤ 64 ∧ i = .int .i64 k ∧ Aside0 (W.heap[w.heap.size]? = some (.cells (arrU (wAt bs k)) 155 (0, 0))) ∧ Aside0 (Below w.heap.size w W)) (fun i _ => 64 - (intOf i).toNat)
      case atStart => exact ⟨16, by omega, by omega, rfl, HG, HB⟩
      case round =>
        clear hk hlt hb11 HG HB
        obtain ⟨k, hk1, hk2, rfl, HG, HB⟩ := hrel
        by_cases hlt : k < 64
        · have hb50 : decide ((k : Int) < 64) = true := decide_eq_true (by omega)
          have cc : ∀ j : Nat, j < 64 → wr.cell? ⟨w.heap.size, j, none⟩ = some (.int .u32 ((wAt bs k).getD j 0)) := fun j hj => (blk_cell HG.out j).trans (arrU_get (by rw [wAt_length]; exact hj))
          obtain ⟨a16, g16⟩ : ∃ a, (wAt bs k).getD (k - 16) 0 = a := ⟨_, rfl⟩
          obtain ⟨a15, g15⟩ : ∃ a, (wAt bs k).getD (k - 15) 0 = a := ⟨_, rfl⟩
          obtain ⟨a7, g7⟩ : ∃ a, (wAt bs k).getD (k - 7) 0 = a := ⟨_, rfl⟩
          obtain ⟨a2, g2⟩ : ∃ a, (wAt bs k).getD (k - 2) 0 = a := ⟨_, rfl⟩
          obtain ⟨a0, g0⟩ : ∃ a, (wAt bs k).getD k 0 = a := ⟨_, rfl⟩
          have c16 := cc (k - 16) (by omega)
          have c15 := cc (k - 15) (by omega)
          have c7 := cc (k - 7) (by omega)
          have c2 := cc (k - 2) (by omega)
          have c0 := cc k hlt
          rw [g16] at c16
          rw [g15] at c15
          rw [g7] at c7
          rw [g2] at c2
          rw [g0] at c0
          have G := Aside0.mk (show wAt bs (k + 1) = (wAt bs k).set k (wMix a16 a15 a7 a2) from by simp only [wAt]; rw [if_neg (by omega), g16, g15, g7, g2])
          clear cc g16 g15 g7 g2 g0
          have hf0 := blk_frozen HG.out k
          have s16 : IntKind.i64.wrap ((k : Int) - 16) = (k : Int) - 16 := IntWalk.i64_in _ ⟨by omega, by omega⟩
          have s15 : IntKind.i64.wrap ((k : Int) - 15) = (k : Int) - 15 := IntWalk.i64_in _ ⟨by omega, by omega⟩
          have s7 : IntKind.i64.wrap ((k : Int) - 7) = (k : Int) - 7 := IntWalk.i64_in _ ⟨by omega, by omega⟩
          have s2 : IntKind.i64.wrap ((k : Int) - 2) = (k : Int) - 2 := IntWalk.i64_in _ ⟨by omega, by omega⟩
          have p16 : 0 ≤ (k : Int) - 16 := by omega
          have p15 : 0 ≤ (k : Int) - 15 := by omega
          have p7 : 0 ≤ (k : Int) - 7 := by omega
          have p2 : 0 ≤ (k : Int) - 2 := by omega
          have q16 : 16 ≤ (k : Int) := by omega
          have q15 : 15 ≤ (k : Int) := by omega
          have q7 : 7 ≤ (k : Int) := by omega
          have q2 : 2 ≤ (k : Int) := by omega
          have l16 : (k : Int) - 16 < 64 := by omega
          have l15 : (k : Int) - 15 < 64 := by omega
          have l7 : (k : Int) - 7 < 64 := by omega
          have l2 : (k : Int) - 2 < 64 := by omega
          have l0 : (k : Int) < 64 := by omega
          have t16 : ((k : Int) - 16).toNat = k - 16 := by omega
          have t15 : ((k : Int) - 15).toNat = k - 15 := by omega
          have t7 : ((k : Int) - 7).toNat = k - 7 := by omega
          have t2 : ((k : Int) - 2).toNat = k - 2 := by omega
          go_wp2
          go_region
          go_wp2_with (first | (go_at_call 142; (first | (with_reducible refine (bits_RotateLeft32.calls _ _ _ _ (rot7 _)).mono ?_) | (with_reducible refine (bits_RotateLeft32.calls _ _ _ _ (rot18 _)).mono ?_) | (with_reducible refine (bits_RotateLeft32.calls _ _ _ _ (rot17 _)).mono ?_) | (with_reducible refine (bits_RotateLeft32.calls _ _ _ _ (rot19 _)).mono ?_)); rintro e w' ⟨rfl, ⟨nd, rfl⟩⟩))
          go_region
          go_wp2
          go_roundw
          case rel =>
            (repeat apply Exists.intro)
            exact ⟨⟨k + 1, by omega, by omega, by go_num, ⟨by rw [G.out, ← arrU_set]; refine blk_set ?_ k _; exact HG.out⟩, ⟨by refine Below.setCell (p := ⟨w.heap.size, k, none⟩) ?_ (Nat.le_refl _) _; exact pw_below_drewN HB.out _⟩⟩, rfl⟩
          case measure => simp [intOf]; omega
        · obtain rfl : k = 64 := by omega
          have hb50 : decide (((64 : Nat) : Int) < 64) = false := by decide
          go_wp2
          go_ret
          exact ⟨_, rfl, Nat.le_refl _, HG.out, HB.out⟩
end Go.Proofs.Ytjnnglphdaemaaa.Q
end

section
/- impl.turnBlock: the eight words of a digest, in their place, turned by a block of 64 bytes. -/
namespace Go.Proofs.Ytjnnglphdaemaaa.Q
open Go.RowKit Go.Proofs.YtjnnglphdaemaaaW.PrintWords Go.Proofs.YtjnnglphdaemaaaW.PrintLast Go.Proofs.YtjnnglphdaemaaaW.PrintMore
set_option linter.unusedVariables false
set_option linter.unusedSimpArgs false

def tS1 (e : Int) : Int := Go.bits .xor .u32 (Go.bits .xor .u32 (rotr e 6) (rotr e 11)) (rotr e 25)
def tS0 (a : Int) : Int := Go.bits .xor .u32 (Go.bits .xor .u32 (rotr a 2) (rotr a 13)) (rotr a 22)
def tT1 (e f g h kc wc : Int) : Int := h + tS1 e + Go.bits .xor .u32 (Go.bits .and .u32 e f) (Go.bits .and .u32 (Go.bits .xor .u32 IntKind.u32.max e) g) + kc + wc
def tMaj (a b c : Int) : Int := Go.bits .xor .u32 (Go.bits .xor .u32 (Go.bits .and .u32 a b) (Go.bits .and .u32 a c)) (Go.bits .and .u32 b c)
/-- One turn of the eight words, by a constant and a word. -/
def turnStep (kc wc : Int) : List Int → List Int
  | [a, b, c, d, e, f, g, h] => [(tT1 e f g h kc wc + tS0 a + tMaj a b c) % 4294967296, a, b, c, (d + tT1 e f g h kc wc) % 4294967296, e, f, g]
  | l => l
def vAt (ks ws hs : List Int) : Nat → List Int
  | 0 => hs
  | i + 1 => turnStep (ks.getD i 0) (ws.getD i 0) (vAt ks ws hs i)

theorem vAt_eight (ks ws hs : List Int) (h : hs.length = 8) (k : Nat) : (vAt ks ws hs k).length = 8 := by
  induction k with
  | zero => exact h
  | succ k ih =>
    simp only [vAt]
    match vAt ks ws hs k, ih with
    | [a, b, c, d, e, f, g, h], _ => rfl
theorem eight {l : List Int} (h : l.length = 8) : ∃ v0 v1 v2 v3 v4 v5 v6 v7, l = [v0, v1, v2, v3, v4, v5, v6, v7] := by
  match l, h with
  | [h0, h1, h2, h3, h4, h5, h6, h7], _ => exact ⟨h0, h1, h2, h3, h4, h5, h6, h7, rfl⟩
theorem eight_set {W : World} {gv : Nat} {T : TypeId} {v0 v1 v2 v3 v4 v5 v6 v7 : Int} (n0 n1 n2 n3 n4 n5 n6 n7 : Int) (h : W.heap[gv]? = some (.cells (arrU [v0, v1, v2, v3, v4, v5, v6, v7]) T (0, 0))) :
    ((((((((W.setCell ⟨gv, 0, none⟩ (.int .u32 n0)).setCell ⟨gv, 1, none⟩ (.int .u32 n1)).setCell ⟨gv, 2, none⟩ (.int .u32 n2)).setCell ⟨gv, 3, none⟩ (.int .u32 n3)).setCell ⟨gv, 4, none⟩ (.int .u32 n4)).setCell ⟨gv, 5, none⟩ (.int .u32 n5)).setCell ⟨gv, 6, none⟩ (.int .u32 n6)).setCell ⟨gv, 7, none⟩ (.int .u32 n7)).heap[gv]? = some (.cells (arrU [n0, n1, n2, n3, n4, n5, n6, n7]) T (0, 0)) := by
  have := blk_set (blk_set (blk_set (blk_set (blk_set (blk_set (blk_set (blk_set h 0 (.int .u32 n0)) 1 (.int .u32 n1)) 2 (.int .u32 n2)) 3 (.int .u32 n3)) 4 (.int .u32 n4)) 5 (.int .u32 n5)) 6 (.int .u32 n6)) 7 (.int .u32 n7)
  simp only [arrU_set] at this
  exact this
theorem eight_below {B : Nat} {w W : World} (h : Below B w W) {gv : Nat} (hg : B ≤ gv) (u0 u1 u2 u3 u4 u5 u6 u7 : Value) :
    Below B w ((((((((W.setCell ⟨gv, 0, none⟩ u0).setCell ⟨gv, 1, none⟩ u1).setCell ⟨gv, 2, none⟩ u2).setCell ⟨gv, 3, none⟩ u3).setCell ⟨gv, 4, none⟩ u4).setCell ⟨gv, 5, none⟩ u5).setCell ⟨gv, 6, none⟩ u6).setCell ⟨gv, 7, none⟩ u7) :=
  (((((((h.setCell (p := ⟨gv, 0, none⟩) hg _).setCell (p := ⟨gv, 1, none⟩) hg _).setCell (p := ⟨gv, 2, none⟩) hg _).setCell (p := ⟨gv, 3, none⟩) hg _).setCell (p := ⟨gv, 4, none⟩) hg _).setCell (p := ⟨gv, 5, none⟩) hg _).setCell (p := ⟨gv, 6, none⟩) hg _).setCell (p := ⟨gv, 7, none⟩) hg _
theorem eight_far {W : World} {g gv : Nat} {t : TypeId} {cs : Array Value} (h : W.heap[g]? = some (.cells cs t (0, 0))) (hne : g ≠ gv) (u0 u1 u2 u3 u4 u5 u6 u7 : Value) :
    ((((((((W.setCell ⟨gv, 0, none⟩ u0).setCell ⟨gv, 1, none⟩ u1).setCell ⟨gv, 2, none⟩ u2).setCell ⟨gv, 3, none⟩ u3).setCell ⟨gv, 4, none⟩ u4).setCell ⟨gv, 5, none⟩ u5).setCell ⟨gv, 6, none⟩ u6).setCell ⟨gv, 7, none⟩ u7).heap[g]? = some (.cells cs t (0, 0)) :=
  blk_far (blk_far (blk_far (blk_far (blk_far (blk_far (blk_far (blk_far h hne _) hne _) hne _) hne _) hne _) hne _) hne _) hne _
def addAt (hs vs : List Int) : Nat → List Int
  | 0 => hs
  | i + 1 => (addAt hs vs i).set i (((addAt hs vs i).getD i 0 + vs.getD i 0) % 4294967296)
theorem addAt_length (hs vs : List Int) (i : Nat) : (addAt hs vs i).length = hs.length := by
  induction i with
  | zero => rfl
  | succ i ih => simp [addAt, ih]
def turned (ks bs hs : List Int) : List Int := addAt hs (vAt ks (wAt bs 64) hs 64) 8

set_option maxHeartbeats 4000000 in
set_option maxRecDepth 100000 in
theorem turnBlock_calls (gh gk : Nat) (A : Option Addr) (c : Nat) (bs hs ks : List Int) (w : World) (hr : Kd.C (Kd.int .u8) w A bs.length bs) (hl : bs.length = 64) (hh : hs.length = 8) (hk : ks.length = 64)
    (hgh : w.heap[gh]? = some (.cells (arrU hs) 139 (0, 0))) (hgk : w.heap[gk]? = some (.cells (arrU ks) 155 (0, 0))) :
    Calls Try.prog 126 #[.pointer (some ⟨gh, 0, none⟩), .slice A bs.length c, .pointer (some ⟨gk, 0, none⟩)] w fun e w' => e = .returned (.tuple #[]) ∧ w.grownBy w' (some gh) ∧ w'.heap[gh]? = some (.cells (arrU (turned ks bs hs)) 139 (0, 0)) := by
  have HL := Aside0.mk hl
  have HK := Aside0.mk hk
  have HGH := Aside0.mk hgh
  have HGK := Aside0.mk hgk
  have HR := Aside0.mk hr
  obtain ⟨h0, h1, h2, h3, h4, h5, h6, h7, rfl⟩ := eight hh
  clear hr hl hh hk hgh hgk
  go_enter Try.func126, Try.ntmps126
  go_wp2_with (go_at_call 141; (with_reducible refine (wordsOf_calls _ _ bs _ HR.out HL.out).mono ?_); rintro e w1 ⟨gw, rfl, hw1, hw2, hb⟩; have HW1 := Aside0.mk hw1; have HW2 := Aside0.mk hw2; have HB := Aside0.mk hb; have HGH1 := Aside0.mk (blk_below HGH.out hb); have HGK1 := Aside0.mk (blk_below HGK.out hb); clear hw1 hw2 hb; have q0 := blk_cell HGH1.out 0; have q1 := blk_cell HGH1.out 1; have q2 := blk_cell HGH1.out 2; have q3 := blk_cell HGH1.out 3; have q4 := blk_cell HGH1.out 4; have q5 := blk_cell HGH1.out 5; have q6 := blk_cell HGH1.out 6; have q7 := blk_cell HGH1.out 7; simp only [arrU, nums, List.map_cons, List.map_nil, List.getElem?_toArray, List.getElem?_cons_zero, List.getElem?_cons_succ] at q0 q1 q2 q3 q4 q5 q6 q7)
  clear q0 q1 q2 q3 q4 q5 q6 q7
  have HGH2 := Aside0.mk (blk_alloc HGH1.out (.cells #[.int .u32 h0, .int .u32 h1, .int .u32 h2, .int .u32 h3, .int .u32 h4, .int .u32 h5, .int .u32 h6, .int .u32 h7] 139))
  have HGK2 := Aside0.mk (blk_alloc HGK1.out (.cells #[.int .u32 h0, .int .u32 h1, .int .u32 h2, .int .u32 h3, .int .u32 h4, .int .u32 h5, .int .u32 h6, .int .u32 h7] 139))
  have HW22 := Aside0.mk (blk_alloc HW2.out (.cells #[.int .u32 h0, .int .u32 h1, .int .u32 h2, .int .u32 h3, .int .u32 h4, .int .u32 h5, .int .u32 h6, .int .u32 h7] 139))
  have HN := Aside0.mk (blk_new w1 (.cells #[.int .u32 h0, .int .u32 h1, .int .u32 h2, .int .u32 h3, .int .u32 h4, .int .u32 h5, .int .u32 h6, .int .u32 h7] 139))
  have HB2 := Aside0.mk (HB.out.alloc HB.out.size (.cells #[.int .u32 h0, .int .u32 h1, .int .u32 h2, .int .u32 h3, .int .u32 h4, .int .u32 h5, .int .u32 h6, .int .u32 h7] 139))
  obtain ⟨gv, hgv⟩ : ∃ gv, w1.heap.size = gv := ⟨_, rfl⟩
  rw [hgv] at HN ⊢
  have HV := Aside0.mk (show w.heap.size ≤ gv from by rw [← hgv]; exact HB.out.size)
  clear hgv
  generalize w1.alloc (.cells #[.int .u32 h0, .int .u32 h1, .int .u32 h2, .int .u32 h3, .int .u32 h4, .int .u32 h5, .int .u32 h6, .int .u32 h7] 139) = w2 at HGH2 HGK2 HW22 HN HB2 ⊢
  clear HGH1 HGK1 HW2 HB
  go_loopw [22] (fun i W => ∃ k : Nat, k ≤ 64 ∧ i = .int .i64 k ∧ Aside0 (W.heap[gv]? = some (.cells (arrU (vAt ks (wAt bs 64) [h0, h1, h2, h3, h4, h5, h6, h7] k)) 139 (0, 0))) ∧ Aside0 (Below w.heap.size w W) ∧ Aside0 (W.heap[gw]? = some (.cells (arrU (wAt bs 64)) 155 (0, 0)))) (fun i _ => 64 - (intOf i).toNat)
  case atStart => exact ⟨0, by omega, rfl, HN, HB2, HW22⟩
  case round =>
    clear HN HB2 HW22
    obtain ⟨k, hk, rfl, HN, HB, HW⟩ := hrel
    by_cases hlt : k < 64
    · obtain ⟨v0, v1, v2, v3, v4, v5, v6, v7, hv⟩ : ∃ v0 v1 v2 v3 v4 v5 v6 v7, vAt ks (wAt bs 64) [h0, h1, h2, h3, h4, h5, h6, h7] k = [v0, v1, v2, v3, v4, v5, v6, v7] := eight (vAt_eight _ _ _ rfl k)
      have HN2 := HN.out
      rw [hv] at HN2
      have HNN := Aside0.mk HN2
      have q0 := blk_cell HN2 0
      have q1 := blk_cell HN2 1
      have q2 := blk_cell HN2 2
      have q3 := blk_cell HN2 3
      have q4 := blk_cell HN2 4
      have q5 := blk_cell HN2 5
      have q6 := blk_cell HN2 6
      have q7 := blk_cell HN2 7
      simp only [arrU, nums, List.map_cons, List.map_nil, List.getElem?_toArray, List.getElem?_cons_zero, List.getElem?_cons_succ] at q0 q1 q2 q3 q4 q5 q6 q7
      have f0 := blk_frozen HN2 0
      have f1 := blk_frozen HN2 1
      have f2 := blk_frozen HN2 2
      have f3 := blk_frozen HN2 3
      have f4 := blk_frozen HN2 4
      have f5 := blk_frozen HN2 5
      have f6 := blk_frozen HN2 6
      have f7 := blk_frozen HN2 7
      clear HN2
      have hkc : wr.cell? ⟨gk, k, none⟩ = some (.int .u32 (ks.getD k 0)) := (blk_cell ((HB.out.block gk (blk_lt HGK.out)).trans HGK.out) k).trans (arrU_get (by rw [HK.out]; omega))
      have hwc : wr.cell? ⟨gw, k, none⟩ = some (.int .u32 ((wAt bs 64).getD k 0)) := (blk_cell HW.out k).trans (arrU_get (by rw [wAt_length]; omega))
      obtain ⟨kc, gkc⟩ : ∃ a, ks.getD k 0 = a := ⟨_, rfl⟩
      obtain ⟨wc, gwc⟩ : ∃ a, (wAt bs 64).getD k 0 = a := ⟨_, rfl⟩
      rw [gkc] at hkc
      rw [gwc] at hwc
      have HV1 := Aside0.mk (show vAt ks (wAt bs 64) [h0, h1, h2, h3, h4, h5, h6, h7] (k + 1) = turnStep kc wc [v0, v1, v2, v3, v4, v5, v6, v7] from by rw [← hv, ← gkc, ← gwc]; rfl)
      clear hv gkc gwc
      have b22 : decide ((k : Int) < 64) = true := decide_eq_true (by omega)
      have l64 : (k : Int) < 64 := by omega
      go_wp2
      go_region
      go_wp2_with (first | (go_at_call 142; (first | (with_reducible refine (bits_RotateLeft32.calls _ _ _ _ (rot6 _)).mono ?_) | (with_reducible refine (bits_RotateLeft32.calls _ _ _ _ (rot11 _)).mono ?_) | (with_reducible refine (bits_RotateLeft32.calls _ _ _ _ (rot25 _)).mono ?_)); rintro e w' ⟨rfl, ⟨nd, rfl⟩⟩))
      go_region
      go_wp2_with (first | (go_at_call 142; (first | (with_reducible refine (bits_RotateLeft32.calls _ _ _ _ (rot2 _)).mono ?_) | (with_reducible refine (bits_RotateLeft32.calls _ _ _ _ (rot13 _)).mono ?_) | (with_reducible refine (bits_RotateLeft32.calls _ _ _ _ (rot22 _)).mono ?_)); rintro e w' ⟨rfl, ⟨nd, rfl⟩⟩))
      go_roundw
      case rel =>
        refine ⟨k + 1, by omega, by go_num, ⟨?_⟩, ⟨?_⟩, ⟨?_⟩⟩
        · rw [HV1.out]
          exact eight_set _ _ _ _ _ _ _ _ (blk_drewN HNN.out _)
        · exact eight_below (pw_below_drewN HB.out _) HV.out _ _ _ _ _ _ _ _
        · exact eight_far (blk_drewN HW.out _) (blk_ne HW.out HNN.out (by decide)) _ _ _ _ _ _ _ _
      case measure => simp [intOf]; omega
    · obtain rfl : k = 64 := by omega
      have b22 : decide (((64 : Nat) : Int) < 64) = false := by decide
      obtain ⟨wo, rfl⟩ : ∃ wo : World, wo = wr := ⟨_, rfl⟩
      go_wp2
      generalize hvv : vAt ks (wAt bs 64) [h0, h1, h2, h3, h4, h5, h6, h7] 64 = vs at HN
      have hvl : vs.length = 8 := by rw [← hvv]; exact vAt_eight _ _ _ rfl _
      have HVV := Aside0.mk hvv
      have HVL := Aside0.mk hvl
      clear hvv hvl
      go_loopw [109] (fun i W => ∃ k : Nat, k ≤ 8 ∧ i = .int .i64 k ∧ Aside0 (W.heap[gh]? = some (.cells (arrU (addAt [h0, h1, h2, h3, h4, h5, h6, h7] vs k)) 139 (0, 0))) ∧ Aside0 (W.heap[gv]? = some (.cells (arrU vs) 139 (0, 0))) ∧ Aside0 (w.grownBy W (some gh))) (fun i _ => 8 - (intOf i).toNat)
      case atStart => exact ⟨0, by omega, rfl, ⟨(HB.out.block gh (blk_lt HGH.out)).trans HGH.out⟩, HN, ⟨grown_of_below HB.out _⟩⟩
      case round =>
        clear hlt hk b22 HN HB HW
        obtain ⟨k, hk, rfl, HH, HN, HB⟩ := hrel
        by_cases hlt : k < 8
        · have hne : gh ≠ gv := by have := blk_lt HGH.out; have := HV.out; omega
          have HNE := Aside0.mk hne
          have ch : wr.cell? ⟨gh, k, none⟩ = some (.int .u32 ((addAt [h0, h1, h2, h3, h4, h5, h6, h7] vs k).getD k 0)) := (blk_cell HH.out k).trans (arrU_get (by rw [addAt_length]; exact hlt))
          have cv : wr.cell? ⟨gv, k, none⟩ = some (.int .u32 (vs.getD k 0)) := (blk_cell HN.out k).trans (arrU_get (by rw [HVL.out]; exact hlt))
          obtain ⟨a, ga⟩ : ∃ a, (addAt [h0, h1, h2, h3, h4, h5, h6, h7] vs k).getD k 0 = a := ⟨_, rfl⟩
          obtain ⟨b, gb⟩ : ∃ a, vs.getD k 0 = a := ⟨_, rfl⟩
          rw [ga] at ch
          rw [gb] at cv
          have G := Aside0.mk (show addAt [h0, h1, h2, h3, h4, h5, h6, h7] vs (k + 1) = (addAt [h0, h1, h2, h3, h4, h5, h6, h7] vs k).set k ((a + b) % 4294967296) from by rw [← ga, ← gb]; rfl)
          have fh := blk_frozen HH.out k
          have b110 : decide ((k : Int) < 8) = true := decide_eq_true (by omega)
          have l8 : (k : Int) < 8 := by omega
          clear ga gb hne
          go_wp2
          go_region
          go_wp2
          go_roundw
          case rel =>
            refine ⟨k + 1, by omega, by go_num, ⟨?_⟩, ⟨?_⟩, ⟨?_⟩⟩
            · rw [G.out, ← arrU_set]
              exact blk_set (blk_drew HH.out) k _
            · exact blk_far (blk_drew HN.out) HNE.out.symm _
            · exact ⟨HB.out.os, HB.out.tape, HB.out.output, by simpa [World.setCell] using HB.out.size, fun i hi hn => (Below.heap_setCell _ _ _ _ (fun e => hn (by rw [e]))).trans (HB.out.block i hi hn)⟩
          case measure => simp [intOf]; omega
        · obtain rfl : k = 8 := by omega
          have b110 : decide (((8 : Nat) : Int) < 8) = false := by decide
          go_wp2
          refine bodyPost_end (results_none rfl _ _ _) rfl ?_
          refine ⟨rfl, HB.out, ?_⟩
          unfold turned
          rw [HVV.out]
          exact HH.out
end Go.Proofs.Ytjnnglphdaemaaa.Q
end

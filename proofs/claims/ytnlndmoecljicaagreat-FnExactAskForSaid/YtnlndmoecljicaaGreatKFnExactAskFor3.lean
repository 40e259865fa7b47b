-- Joined and shortened by a program of this session (wip/tools/shakecopy.py): the words of the print, texts of pp.sh and of mine.
import Derived.Test.YtnlndmoecljicaaGreatKFnExactAskFor2
import Derived.Test.YtnlndmoecljicaaGreatProg
import Derived.Below
import Derived.Deep.Draws
import Derived.Deep.AppendLies
import Derived.Maps.AppendAt
import Derived.OwnWalk
import Derived.Laws.BytesArg
import Derived.Laws.MakeOwn
import Derived.Laws.OwnMore
import Derived.Deep.OwnRows
import Derived.Tactics
import Derived.Lib.ConvBytes
import Derived.Laws.Slices
import Derived.WalkKit
import Derived.KernelRfl
import Derived.RowKit3
import Derived.Deep.LoopGhost
import Derived.Deep.QuietTactic
import Derived.BigQuiet
import Derived.WideLaws
import Derived.Deep.DeepCutAuto
import Derived.Deep.CutBlock
import Derived.Deep.RegionHeld3
import Derived.Laws.Rows
import Derived.Lib.AppendStr
import Derived.ArgAppend
import Derived.Laws.IdiomCopy
import Derived.OrdersHeld
import Derived.Laws.BitsLemmas
import Derived.RowKit
import Derived.Deep.Slices
import Derived.ChangeArms
section
namespace Go.Proofs.YtnlndmoecljicaaGreat.Q
open Go.RowKit Go.Proofs.YtnlndmoecljicaaGreatW.PrintWords Go.Proofs.YtnlndmoecljicaaGreatW.PrintLast Go.Proofs.YtnlndmoecljicaaGreatW.PrintMore
attribute [local go_sem] max2_int min2_int max_two min_two max_three min_three max_four min_four   -- for this text's walks alone
set_option linter.unusedVariables false
set_option linter.unusedSimpArgs false
def errW : Option Int → Value
 | none => .nilIface
 | some c => .iface 0 (.int .i64 c)
theorem errW_none : errW none = .nilIface := rfl
theorem errW_some (c : Int) : errW (some c) = .iface 0 (.int .i64 c) := rfl
theorem info3 : (Tryz.prog.info? 3).map (fun i => (i.zero, i.size, i.bytes)) = some (some (.int .i64 0), 1, 8) := by kernel_rfl
theorem info5 : (Tryz.prog.info? 5).map (fun i => (i.zero, i.size, i.bytes)) = some (some (.int .u8 0), 1, 1) := by kernel_rfl
theorem info9 : (Tryz.prog.info? 9).map (fun i => (i.zero, i.size, i.bytes)) = some (some (.string ⟨#[]⟩), 1, 16) := by kernel_rfl
theorem info37 : (Tryz.prog.info? 37).map (fun i => (i.zero, i.size, i.bytes)) = some (some (.agg #[(.int .i64 0), (.string ⟨#[]⟩)]), 2, 24) := by kernel_rfl
structure S24 where
 f0 : Int
 f1 : ByteArray
def z24 : S24 := ⟨(0 : Int), (⟨#[]⟩ : ByteArray)⟩
def k24 : Kd S24 := Kd.iso (Kd.pair (Kd.int .i64) Kd.string) (fun x : S24 => (x.f0, x.f1))
theorem k24_open {w : World} {x : S24} {cs : List Value} (h : k24.K w x cs) : cs = [.int .i64 x.f0, .string x.f1] := by
 obtain ⟨_, _, rfl, rfl, rfl⟩ := h
 exact rfl
def rd_T24 (xs : List S24) (i : Int) : S24 := xs.getD i.toNat z24
theorem at_T24 {w : World} {A : Option Addr} {n : Nat} {xs : List S24} (h : Kd.C k24 w A n xs) (i : Int) (h0 : 0 ≤ i) (h1 : i < n) : ∃ ad , A = some ad ∧ w.cell? (ad.add (i.toNat * 2)) = some (.int .i64 (rd_T24 xs i).f0) ∧ w.cell? ⟨(ad.add (i.toNat * 2)).block, (ad.add (i.toNat * 2)).off + 1, none⟩ = some (.string (rd_T24 xs i).f1) := by
 obtain ⟨ad, c, e, _, hK, hc0⟩ := Kd.C_get h z24 i h0 h1
 have hc : ∀ j u, c[j]? = some u → w.cell? (ad.add (i.toNat * 2 + j)) = some u := hc0
 obtain rfl := k24_open hK
 exact ⟨ad, e, hc 0 _ rfl, by rw [← add_field _ _ 1 (by omega)]; exact hc 1 _ rfl⟩
structure S37 where
 f0 : Int
 f1 : ByteArray
def z37 : S37 := ⟨(0 : Int), (⟨#[]⟩ : ByteArray)⟩
def k37 : Kd S37 := Kd.iso (Kd.pair (Kd.int .i64) Kd.string) (fun x : S37 => (x.f0, x.f1))
theorem k37_open {w : World} {x : S37} {cs : List Value} (h : k37.K w x cs) : cs = [.int .i64 x.f0, .string x.f1] := by
 obtain ⟨_, _, rfl, rfl, rfl⟩ := h
 exact rfl
theorem k37_openM {w : World} {base : Nat} {ok : Nat → Prop} {x : S37} {cs : List Value} (h : k37.M w base ok x cs) : cs = [.int .i64 x.f0, .string x.f1] := by
 obtain ⟨_, _, rfl, rfl, rfl⟩ := h
 exact rfl
theorem k37_mkM (w : World) (base : Nat) (ok : Nat → Prop) (x : S37)  : k37.M w base ok x [.int .i64 x.f0, .string x.f1] := ⟨[.int .i64 x.f0], [.string x.f1], rfl, rfl, rfl⟩
def rd_T37 (xs : List S37) (i : Int) : S37 := xs.getD i.toNat z37
theorem at_T37 {w : World} {A : Option Addr} {n : Nat} {xs : List S37} (h : Kd.C k37 w A n xs) (i : Int) (h0 : 0 ≤ i) (h1 : i < n) : ∃ ad , A = some ad ∧ w.cell? (ad.add (i.toNat * 2)) = some (.int .i64 (rd_T37 xs i).f0) ∧ w.cell? ⟨(ad.add (i.toNat * 2)).block, (ad.add (i.toNat * 2)).off + 1, none⟩ = some (.string (rd_T37 xs i).f1) := by
 obtain ⟨ad, c, e, _, hK, hc0⟩ := Kd.C_get h z37 i h0 h1
 have hc : ∀ j u, c[j]? = some u → w.cell? (ad.add (i.toNat * 2 + j)) = some u := hc0
 obtain rfl := k37_open hK
 exact ⟨ad, e, hc 0 _ rfl, by rw [← add_field _ _ 1 (by omega)]; exact hc 1 _ rfl⟩
structure S65 where
 f0 : Int
 f1 : Int
 f2 : Int
 f3 : S37
 f4 : Int
 f5 : (List ByteArray)
def z65 : S65 := ⟨(0 : Int), (0 : Int), (0 : Int), z37, (0 : Int), ([] : List ByteArray)⟩
def k65 : Kd S65 := Kd.iso (Kd.pair (Kd.int .i64) (Kd.pair (Kd.int .i64) (Kd.pair (Kd.int .i64) (Kd.pair k37 (Kd.pair (Kd.int .i64) (Kd.slice 9 Kd.string)))))) (fun x : S65 => (x.f0, x.f1, x.f2, x.f3, x.f4, x.f5))
theorem k65_open {w : World} {x : S65} {cs : List Value} (h : k65.K w x cs) : ∃ A6 c6, cs = [.int .i64 x.f0, .int .i64 x.f1, .int .i64 x.f2, .int .i64 x.f3.f0, .string x.f3.f1, .int .i64 x.f4, .slice A6 x.f5.length c6] ∧ x.f5.length ≤ c6 ∧ Kd.string.C w A6 x.f5.length x.f5 := by
 obtain ⟨_, _, rfl, rfl, ⟨_, _, rfl, rfl, ⟨_, _, rfl, rfl, ⟨_, _, rfl, s3, ⟨_, _, rfl, rfl, ⟨A6, c6, rfl, l6, g6⟩⟩⟩⟩⟩⟩ := h
 obtain rfl := k37_open s3
 exact ⟨A6, c6, rfl, l6, g6⟩
theorem k65_openM {w : World} {base : Nat} {ok : Nat → Prop} {x : S65} {cs : List Value} (h : k65.M w base ok x cs) : ∃ v6, cs = [.int .i64 x.f0, .int .i64 x.f1, .int .i64 x.f2, .int .i64 x.f3.f0, .string x.f3.f1, .int .i64 x.f4, v6] ∧ Kd.string.R 9 w base ok v6 x.f5 := by
 obtain ⟨_, _, rfl, rfl, ⟨_, _, rfl, rfl, ⟨_, _, rfl, rfl, ⟨_, _, rfl, s3, ⟨_, _, rfl, rfl, ⟨v6, rfl, g6⟩⟩⟩⟩⟩⟩ := h
 obtain rfl := k37_openM s3
 exact ⟨v6, rfl, g6⟩
theorem k65_mkM (w : World) (base : Nat) (ok : Nat → Prop) (x : S65) {v6 : Value} (g6 : Kd.string.R 9 w base ok v6 x.f5) : k65.M w base ok x [.int .i64 x.f0, .int .i64 x.f1, .int .i64 x.f2, .int .i64 x.f3.f0, .string x.f3.f1, .int .i64 x.f4, v6] := ⟨[.int .i64 x.f0], [.int .i64 x.f1, .int .i64 x.f2, .int .i64 x.f3.f0, .string x.f3.f1, .int .i64 x.f4, v6], rfl, rfl, ⟨[.int .i64 x.f1], [.int .i64 x.f2, .int .i64 x.f3.f0, .string x.f3.f1, .int .i64 x.f4, v6], rfl, rfl, ⟨[.int .i64 x.f2], [.int .i64 x.f3.f0, .string x.f3.f1, .int .i64 x.f4, v6], rfl, rfl, ⟨[.int .i64 x.f3.f0, .string x.f3.f1], [.int .i64 x.f4, v6], rfl, (k37_mkM w base ok x.f3 ), ⟨[.int .i64 x.f4], [v6], rfl, rfl, ⟨v6, rfl, g6⟩⟩⟩⟩⟩⟩
def rd_T65 (xs : List S65) (i : Int) : S65 := xs.getD i.toNat z65
theorem at_T65 {w : World} {A : Option Addr} {n : Nat} {xs : List S65} (h : Kd.C k65 w A n xs) (i : Int) (h0 : 0 ≤ i) (h1 : i < n) : ∃ ad A6 c6, A = some ad ∧ w.cell? (ad.add (i.toNat * 7)) = some (.int .i64 (rd_T65 xs i).f0) ∧ w.cell? ⟨(ad.add (i.toNat * 7)).block, (ad.add (i.toNat * 7)).off + 1, none⟩ = some (.int .i64 (rd_T65 xs i).f1) ∧ w.cell? ⟨(ad.add (i.toNat * 7)).block, (ad.add (i.toNat * 7)).off + 2, none⟩ = some (.int .i64 (rd_T65 xs i).f2) ∧ w.cell? ⟨(ad.add (i.toNat * 7)).block, (ad.add (i.toNat * 7)).off + 3, none⟩ = some (.int .i64 (rd_T65 xs i).f3.f0) ∧ w.cell? ⟨(ad.add (i.toNat * 7)).block, (ad.add (i.toNat * 7)).off + 4, none⟩ = some (.string (rd_T65 xs i).f3.f1) ∧ w.cell? ⟨(ad.add (i.toNat * 7)).block, (ad.add (i.toNat * 7)).off + 5, none⟩ = some (.int .i64 (rd_T65 xs i).f4) ∧ w.cell? ⟨(ad.add (i.toNat * 7)).block, (ad.add (i.toNat * 7)).off + 6, none⟩ = some (.slice A6 (rd_T65 xs i).f5.length c6) ∧ (rd_T65 xs i).f5.length ≤ c6 ∧ Kd.string.C w A6 (rd_T65 xs i).f5.length (rd_T65 xs i).f5 := by
 obtain ⟨ad, c, e, _, hK, hc0⟩ := Kd.C_get h z65 i h0 h1
 have hc : ∀ j u, c[j]? = some u → w.cell? (ad.add (i.toNat * 7 + j)) = some u := hc0
 obtain ⟨A6, c6, rfl, l6, g6⟩ := k65_open hK
 exact ⟨ad, A6, c6, e, hc 0 _ rfl, by rw [← add_field _ _ 1 (by omega)]; exact hc 1 _ rfl, by rw [← add_field _ _ 2 (by omega)]; exact hc 2 _ rfl, by rw [← add_field _ _ 3 (by omega)]; exact hc 3 _ rfl, by rw [← add_field _ _ 4 (by omega)]; exact hc 4 _ rfl, by rw [← add_field _ _ 5 (by omega)]; exact hc 5 _ rfl, by rw [← add_field _ _ 6 (by omega)]; exact hc 6 _ rfl, l6, g6⟩
structure S39 where
 f0 : (List ByteArray)
 f1 : S37
structure S41 where
 f0 : S39
 f1 : (List Int)
 f2 : Int
structure S43 where
 f0 : Int
 f1 : S41
 f2 : S37
structure S26 where
 f0 : (List ByteArray)
 f1 : S24
def k26 : Kd S26 := Kd.iso (Kd.pair (Kd.slice 9 Kd.string) k24) (fun x : S26 => (x.f0, x.f1))
theorem k26_open {w : World} {x : S26} {cs : List Value} (h : k26.K w x cs) : ∃ A0 c0, cs = [.slice A0 x.f0.length c0, .int .i64 x.f1.f0, .string x.f1.f1] ∧ x.f0.length ≤ c0 ∧ Kd.string.C w A0 x.f0.length x.f0 := by
 obtain ⟨_, _, rfl, ⟨A0, c0, rfl, l0, g0⟩, s1⟩ := h
 obtain rfl := k24_open s1
 exact ⟨A0, c0, rfl, l0, g0⟩
structure S29 where
 f0 : S26
 f1 : (List Int)
 f2 : Int
def k29 : Kd S29 := Kd.iso (Kd.pair k26 (Kd.pair (Kd.slice 5 (Kd.int .u8)) (Kd.int .i64))) (fun x : S29 => (x.f0, x.f1, x.f2))
theorem k29_open {w : World} {x : S29} {cs : List Value} (h : k29.K w x cs) : ∃ A0 c0 A3 c3, cs = [.slice A0 x.f0.f0.length c0, .int .i64 x.f0.f1.f0, .string x.f0.f1.f1, .slice A3 x.f1.length c3, .int .i64 x.f2] ∧ x.f0.f0.length ≤ c0 ∧ Kd.string.C w A0 x.f0.f0.length x.f0.f0 ∧ x.f1.length ≤ c3 ∧ (Kd.int .u8).C w A3 x.f1.length x.f1 := by
 obtain ⟨_, _, rfl, s0, ⟨_, _, rfl, ⟨A3, c3, rfl, l3, g3⟩, rfl⟩⟩ := h
 obtain ⟨A0, c0, rfl, l0, g0⟩ := k26_open s0
 exact ⟨A0, c0, A3, c3, rfl, l0, g0, l3, g3⟩
structure S31 where
 f0 : Int
 f1 : S29
 f2 : S24
def k31 : Kd S31 := Kd.iso (Kd.pair (Kd.int .i64) (Kd.pair k29 k24)) (fun x : S31 => (x.f0, x.f1, x.f2))
theorem k31_open {w : World} {x : S31} {cs : List Value} (h : k31.K w x cs) : ∃ A1 c1 A4 c4, cs = [.int .i64 x.f0, .slice A1 x.f1.f0.f0.length c1, .int .i64 x.f1.f0.f1.f0, .string x.f1.f0.f1.f1, .slice A4 x.f1.f1.length c4, .int .i64 x.f1.f2, .int .i64 x.f2.f0, .string x.f2.f1] ∧ x.f1.f0.f0.length ≤ c1 ∧ Kd.string.C w A1 x.f1.f0.f0.length x.f1.f0.f0 ∧ x.f1.f1.length ≤ c4 ∧ (Kd.int .u8).C w A4 x.f1.f1.length x.f1.f1 := by
 obtain ⟨_, _, rfl, rfl, ⟨_, _, rfl, s1, s6⟩⟩ := h
 obtain ⟨A1, c1, A4, c4, rfl, l1, g1, l4, g4⟩ := k29_open s1
 obtain rfl := k24_open s6
 exact ⟨A1, c1, A4, c4, rfl, l1, g1, l4, g4⟩
def spec_l1In.f (a0 : Int) (a1 : Int) (a2 : Int) : Option (Bool) := if a0 ≥ a1 then (some (decide (a0 ≤ a2))) else (some false)
set_option maxHeartbeats 8000000 in
set_option maxRecDepth 100000 in
theorem spec_l1In.calls (a0 : Int) (a1 : Int) (a2 : Int) (r : Bool) (w : World) (h : spec_l1In.f a0 a1 a2 = some r) :
  Calls Tryz.prog 72 #[.int .i64 a0, .int .i64 a1, .int .i64 a2] w fun e w' => e = .returned (.bool r) ∧ Drawn0 w w' := by
 have H : (if a0 ≥ a1 then (some (decide (a0 ≤ a2))) else (some false)) = some r := h
 clear h
 replace H := it_ H; obtain ⟨c4, H⟩ | ⟨c4, H⟩ := H
 ·have c4b0 : decide (a1 ≤ a0) = true := decide_eq_true c4
  clear c4
  obtain rfl := Option.some.inj H
  go_enter Tryz.func72, Tryz.ntmps72
  go_wp2
  go_ret
  exact ⟨e1_, dw_⟩
 ·have c4b0 : decide (a1 ≤ a0) = false := decide_eq_false c4
  clear c4
  obtain rfl := Option.some.inj H
  go_enter Tryz.func72, Tryz.ntmps72
  go_wp2
  go_ret
  exact ⟨e1_, dw_⟩
def impl_inRange.f (a0 : Int) (a1 : Int) (a2 : Int) : Option (Bool) := if a0 ≥ a1 then (some (decide (a0 ≤ a2))) else (some false)
set_option maxHeartbeats 8000000 in
set_option maxRecDepth 100000 in
theorem impl_inRange.calls (a0 : Int) (a1 : Int) (a2 : Int) (r : Bool) (w : World) (h : impl_inRange.f a0 a1 a2 = some r) :
  Calls Tryz.prog 63 #[.int .i64 a0, .int .i64 a1, .int .i64 a2] w fun e w' => e = .returned (.bool r) ∧ Drawn0 w w' := by
 have H : (if a0 ≥ a1 then (some (decide (a0 ≤ a2))) else (some false)) = some r := h
 clear h
 replace H := it_ H; obtain ⟨c4, H⟩ | ⟨c4, H⟩ := H
 ·have c4b0 : decide (a1 ≤ a0) = true := decide_eq_true c4
  clear c4
  obtain rfl := Option.some.inj H
  go_enter Tryz.func63, Tryz.ntmps63
  go_wp2
  go_ret
  exact ⟨e1_, dw_⟩
 ·have c4b0 : decide (a1 ≤ a0) = false := decide_eq_false c4
  clear c4
  obtain rfl := Option.some.inj H
  go_enter Tryz.func63, Tryz.ntmps63
  go_wp2
  go_ret
  exact ⟨e1_, dw_⟩
end Go.Proofs.YtnlndmoecljicaaGreat.Q
end
section
namespace Go.Proofs.YtnlndmoecljicaaGreat.Q
open Go.RowKit Go.Proofs.YtnlndmoecljicaaGreat.B Go.Proofs.YtnlndmoecljicaaGreatW.PrintWords
theorem spec_in_eq (a b c : Int) : spec_l1In.f a b c = some (decide (b ≤ a ∧ a ≤ c)) := by
 unfold spec_l1In.f
 by_cases h : a ≥ b
 ·rw [if_pos h]
  by_cases h2 : a ≤ c
  ·rw [decide_eq_true h2, decide_eq_true ⟨h, h2⟩]
  ·rw [decide_eq_false h2, decide_eq_false (fun q => h2 q.2)]
 ·rw [if_neg h, decide_eq_false (fun q => h q.1)]
theorem impl_in_eq (a b c : Int) : impl_inRange.f a b c = some (decide (b ≤ a ∧ a ≤ c)) := spec_in_eq a b c
end Go.Proofs.YtnlndmoecljicaaGreat.Q
end
section
namespace Go.Proofs.YtnlndmoecljicaaGreat.Q
open Go.RowKit Go.Proofs.YtnlndmoecljicaaGreatW.PrintWords Go.Proofs.YtnlndmoecljicaaGreatW.PrintLast Go.Proofs.YtnlndmoecljicaaGreatW.PrintMore
attribute [local go_sem] max2_int min2_int max_two min_two max_three min_three max_four min_four   -- for this text's walks alone
set_option linter.unusedVariables false
set_option linter.unusedSimpArgs false
def laws_szHead.f (a0_0 : Int) (a0_1 : ByteArray) (a1 : Int) : Option (Int) := if (wrap64 (a1 - (a0_1.size : Int))) < 0 then (some (-1)) else (some (wrap64 (a1 - (a0_1.size : Int))))
set_option maxHeartbeats 8000000 in
set_option maxRecDepth 100000 in
theorem laws_szHead.calls (a0_0 : Int) (a0_1 : ByteArray) (a1 : Int) (r : Int) (w : World) (h : laws_szHead.f a0_0 a0_1 a1 = some r) :
  Calls Tryz.prog 38 #[.agg #[.int .i64 a0_0, .string a0_1], .int .i64 a1] w fun e w' => e = .returned (.int .i64 r) ∧ Below w.heap.size w w' := by
 have hu24 := Tryz.underlying24
 have HB := Aside0.mk (Below.refl w.heap.size w)
 have H : (if (wrap64 (a1 - (a0_1.size : Int))) < 0 then (some (-1)) else (some (wrap64 (a1 - (a0_1.size : Int))))) = some r := h
 clear h
 replace H := itd_ H; obtain ⟨c3b0, H⟩ | ⟨c3b0, H⟩ := H
 ·obtain rfl := Option.some.inj H
  go_enter Tryz.func38, Tryz.ntmps38
  go_wp2_with (first | ((with_reducible refine gd_ 2 ?_); refine bx_ 2 24 #[.int .i64 a0_0, .string a0_1] ?_; intro gb601 hg w4 hbox hb; have BK601 := Aside0.mk hbox; have GW601 := gg_ hg HB; have GE601 := GW601; replace HB := ss_ HB hb; clear hb hbox hg; have hz5 := cz2_ BK601))
  go_ret
  exact ⟨e2_, bw_ HB⟩
 ·obtain rfl := Option.some.inj H
  go_enter Tryz.func38, Tryz.ntmps38
  go_wp2_with (first | ((with_reducible refine gd_ 2 ?_); refine bx_ 2 24 #[.int .i64 a0_0, .string a0_1] ?_; intro gb601 hg w6 hbox hb; have BK601 := Aside0.mk hbox; have GW601 := gg_ hg HB; have GE601 := GW601; replace HB := ss_ HB hb; clear hb hbox hg; have hz7 := cz2_ BK601))
  go_ret
  exact ⟨e2_, bw_ HB⟩
def laws_toHead.f (a0_0 : Int) (a0_1 : ByteArray) : Option (Int × ByteArray) := some (a0_0, a0_1)
set_option maxHeartbeats 8000000 in
set_option maxRecDepth 100000 in
theorem laws_toHead.calls (a0_0 : Int) (a0_1 : ByteArray) (r1 : Int) (r2 : ByteArray) (w : World) (h : laws_toHead.f a0_0 a0_1 = some (r1, r2)) :
  Calls Tryz.prog 42 #[.agg #[.int .i64 a0_0, .string a0_1]] w fun e w' => e = .returned (.agg #[.int .i64 r1, .string r2]) ∧ Below w.heap.size w w' := by
 have hu24 := Tryz.underlying24
 have hu37 := Tryz.underlying37
 have HB := Aside0.mk (Below.refl w.heap.size w)
 have H : (some (a0_0, a0_1)) = some (r1, r2) := h
 clear h
 replace H := so2_ H; obtain ⟨rfl, rfl⟩ := H
 go_enter Tryz.func42, Tryz.ntmps42
 go_wp2_with (first | ((with_reducible refine gd_ 1 ?_); refine bx_ 1 24 #[.int .i64 a0_0, .string a0_1] ?_; intro gb601 hg w2 hbox hb; have BK601 := Aside0.mk hbox; have GW601 := gg_ hg HB; have GE601 := GW601; replace HB := ss_ HB hb; clear hb hbox hg) | ((with_reducible refine gd_ 2 ?_); refine bx_ 2 37 #[.int .i64 0, .string (⟨#[]⟩ : ByteArray)] ?_; intro gb602 hg w3 hbox hb; have BK602 := Aside0.mk hbox; have GW602 := gg_ hg HB; have GE602 := GW602; replace HB := ss_ HB hb; have NB601_602 := nla_ hg BK601; have NB602_601 := nga_ hg BK601; replace BK601 := kl_ BK601 hb; clear hb hbox hg) | ((with_reducible refine gd_ 3 ?_); refine bx_ 3 37 #[.int .i64 0, .string (⟨#[]⟩ : ByteArray)] ?_; intro gb603 hg w4 hbox hb; have BK603 := Aside0.mk hbox; have GW603 := gg_ hg HB; have GE603 := GW603; replace HB := ss_ HB hb; have NB601_603 := nla_ hg BK601; have NB603_601 := nga_ hg BK601; replace BK601 := kl_ BK601 hb; have NB602_603 := nla_ hg BK602; have NB603_602 := nga_ hg BK602; replace BK602 := kl_ BK602 hb; clear hb hbox hg; have hnb5 := NB601_602.out; have hnc5 := NB602_601.out; have hnb6 := NB601_603.out; have hnc6 := NB603_601.out; have hz7 := cz2_ BK601; have hnb8 := NB603_602.out; have hnc8 := NB602_603.out; have hz9 := cz2_ BK603; have hz10 := cz2_ BK602))
 refine bodyPost_ret (results_cell_row rfl _ _ gb602 37 #[.int .i64 a0_0, .string a0_1] (0, 0) _ rfl (by exact kq_ BK602) Tryz.underlying37 rfl (by kernel_rfl)) rfl ?_
 exact ⟨e2_, bw_ HB⟩
def laws_eqHead.f (a0_0 : Int) (a0_1 : ByteArray) (a1_0 : Int) (a1_1 : ByteArray) : Option (Bool) := if a0_0 = a1_0 then (if a0_1.toList = a1_1.toList then (some true) else (none)) else (none)
set_option maxHeartbeats 8000000 in
set_option maxRecDepth 100000 in
theorem laws_eqHead.calls (a0_0 : Int) (a0_1 : ByteArray) (a1_0 : Int) (a1_1 : ByteArray) (r : Bool) (w : World) (h : laws_eqHead.f a0_0 a0_1 a1_0 a1_1 = some r) :
  Calls Tryz.prog 46 #[.agg #[.int .i64 a0_0, .string a0_1], .agg #[.int .i64 a1_0, .string a1_1]] w fun e w' => e = .returned (.bool r) ∧ Below w.heap.size w w' := by
 have hu37 := Tryz.underlying37
 have HB := Aside0.mk (Below.refl w.heap.size w)
 have H : (if a0_0 = a1_0 then (if a0_1.toList = a1_1.toList then (some true) else (none)) else (none)) = some r := h
 clear h
 replace H := ip_ H; obtain ⟨c3, H⟩ := H
 have c3b0 : (a0_0 == a1_0) = true := beq_iff_eq.mpr c3
 have c3b1 : (a0_0 != a1_0) = false := bne_eq_false_iff_eq.mpr c3
 clear c3
 replace H := ip_ H; obtain ⟨c4, H⟩ := H
 have c4b0 : (a0_1.toList == a1_1.toList) = true := beq_iff_eq.mpr c4
 have c4b1 : (a0_1.toList != a1_1.toList) = false := bne_eq_false_iff_eq.mpr c4
 clear c4
 obtain rfl := Option.some.inj H
 go_enter Tryz.func46, Tryz.ntmps46
 go_wp2_with (first | ((with_reducible refine gd_ 2 ?_); refine bx_ 2 37 #[.int .i64 a0_0, .string a0_1] ?_; intro gb601 hg w5 hbox hb; have BK601 := Aside0.mk hbox; have GW601 := gg_ hg HB; have GE601 := GW601; replace HB := ss_ HB hb; clear hb hbox hg) | ((with_reducible refine gd_ 3 ?_); refine bx_ 3 37 #[.int .i64 a1_0, .string a1_1] ?_; intro gb602 hg w6 hbox hb; have BK602 := Aside0.mk hbox; have GW602 := gg_ hg HB; have GE602 := GW602; replace HB := ss_ HB hb; have NB601_602 := nla_ hg BK601; have NB602_601 := nga_ hg BK601; replace BK601 := kl_ BK601 hb; clear hb hbox hg; have hnb7 := NB601_602.out; have hnc7 := NB602_601.out; have hz8 := cz2_ BK601; have hz9 := cz2_ BK602))
 go_ret
 exact ⟨e2_, bw_ HB⟩
end Go.Proofs.YtnlndmoecljicaaGreat.Q
end
section
namespace Go.Proofs.YtnlndmoecljicaaGreat.Q
open Go.RowKit Go.Proofs.YtnlndmoecljicaaGreat.B Go.Proofs.YtnlndmoecljicaaGreatW.PrintWords
theorem szHead_eq (n : Int) (s : ByteArray) (left : Int) (h0 : 0 ≤ left) (h1 : left ≤ 1048576) (hs : s.size ≤ 9223372036854775807) :
  ∃ r, laws_szHead.f n s left = some r ∧ (r < 0 ∨ 0 ≤ r ∧ r + s.size = left) := by
 unfold laws_szHead.f
 rw [w64 (by omega) (by omega)]
 by_cases h : left - (s.size : Int) < 0
 ·exact ⟨-1, if_pos h, .inl (by omega)⟩
 ·exact ⟨_, if_neg h, .inr ⟨by omega, by omega⟩⟩
theorem toHead_eq (n : Int) (s : ByteArray) : laws_toHead.f n s = some (n, s) := rfl
theorem eqHead_eq (n : Int) (s : ByteArray) : laws_eqHead.f n s n s = some true := by
 unfold laws_eqHead.f
 rw [if_pos rfl, if_pos rfl]
end Go.Proofs.YtnlndmoecljicaaGreat.Q
end
section
namespace Go.Proofs.YtnlndmoecljicaaGreat.Q
open Go.RowKit Go.Proofs.YtnlndmoecljicaaGreatW.PrintWords Go.Proofs.YtnlndmoecljicaaGreatW.PrintLast Go.Proofs.YtnlndmoecljicaaGreatW.PrintMore
attribute [local go_sem] max2_int min2_int max_two min_two max_three min_three max_four min_four   -- for this text's walks alone
set_option linter.unusedVariables false
set_option linter.unusedSimpArgs false
def laws_szStringS.l0 : Nat → List ByteArray → Int → Int → Option (Int)
 | 0, _, _, _ => none
 | k + 1, x0, x1, x5 => if x5 < (x0.length : Int) then (if 0 ≤ x5 then (if (wrap64 (x1 - ((rdOf ByteArray.empty x0 x5).size : Int))) < 0 then (some (-1)) else (laws_szStringS.l0 k x0 (wrap64 (x1 - ((rdOf ByteArray.empty x0 x5).size : Int))) (wrap64 (x5 + 1)))) else (none)) else (some x1)
def laws_szStringS.f (k : Nat) (l0 : List ByteArray) (a1 : Int) : Option (Int) := if (wrap64 (a1 - (l0.length : Int))) < 0 then (some (-1)) else (laws_szStringS.l0 k l0 (wrap64 (a1 - (l0.length : Int))) 0)
set_option maxHeartbeats 8000000 in
set_option maxRecDepth 100000 in
theorem laws_szStringS.calls (k : Nat) (A0 : Option Addr) (c0 : Nat) (l0 : List ByteArray) (a1 : Int) (r : Int) (w : World) (hr0 : Kd.C Kd.string w A0 l0.length l0) (hc0 : l0.length ≤ c0) (h : laws_szStringS.f k l0 a1 = some r) :
  Calls Tryz.prog 106 #[.slice A0 l0.length c0, .int .i64 a1] w fun e w' => e = .returned (.int .i64 r) ∧ Drawn0 w w' := by
 have HR0 := Aside0.mk hr0
 have HC0 := Aside0.mk hc0
 clear hr0 hc0
 have H : (if (wrap64 (a1 - (l0.length : Int))) < 0 then (some (-1)) else (laws_szStringS.l0 k l0 (wrap64 (a1 - (l0.length : Int))) 0)) = some r := h
 clear h
 replace H := itd_ H; obtain ⟨c3b0, H⟩ | ⟨c3b0, H⟩ := H
 ·obtain rfl := Option.some.inj H
  go_enter Tryz.func106, Tryz.ntmps106
  go_wp2
  go_ret
  exact ⟨e1_, dw_⟩
 ·have H' := Aside0.mk H
  clear H
  go_enter Tryz.func106, Tryz.ntmps106
  go_wp2
  go_loopg [1, 5] k (fun kq v1 v5 w' => ∃ (x1_1 : Int) (x5_1 : Int), v1 = .int .i64 x1_1 ∧ v5 = .int .i64 x5_1 ∧ Aside0 (laws_szStringS.l0 kq l0 x1_1 x5_1 = some r) ∧ Aside0 (kq ≤ k) ∧ Drawn0 w w')
  case atStart => exact ⟨(wrap64 (a1 - (l0.length : Int))), (0), e1_, e1_, H', ⟨Nat.le_refl _⟩, dw_⟩
  case round =>
   clear H'
   try clear c3b0
   obtain ⟨x1_1, x5_1, rfl, rfl, HA, HK1, ⟨m1, rfl⟩⟩ := hrel
   cases gk with
   | zero => exact absurd HA.out (by simp [laws_szStringS.l0])
   | succ k1 =>
    have H := HA.out
    clear HA
    simp only [laws_szStringS.l0] at H
    replace H := itd_ H; obtain ⟨c4b0, H⟩ | ⟨c4b0, H⟩ := H
    ·replace H := ipd_ H; obtain ⟨c5b0, H⟩ := H
     replace H := itd_ H; obtain ⟨c6b0, H⟩ | ⟨c6b0, H⟩ := H
     ·obtain rfl := Option.some.inj H
      have p601 : 0 ≤ (x5_1 : Int) := of_decide_eq_true as_
      have q601 : x5_1 < (l0.length : Int) := of_decide_eq_true as_
      obtain ⟨ad601, e601, hx601_0⟩ := Kd.at_string HR0.out x5_1 p601 q601
      cases e601
      replace p601 := eq_true p601
      replace q601 := eq_true q601
      go_wp2
      go_ret
      exact ⟨e1_, dw_⟩
     ·have H' := Aside0.mk H
      clear H
      have p601 : 0 ≤ (x5_1 : Int) := of_decide_eq_true as_
      have q601 : x5_1 < (l0.length : Int) := of_decide_eq_true as_
      obtain ⟨ad601, e601, hx601_0⟩ := Kd.at_string HR0.out x5_1 p601 q601
      cases e601
      replace p601 := eq_true p601
      replace q601 := eq_true q601
      go_wp2
      go_roundg k1
      case measure => have := HK1.out; omega
      case rel => exact ⟨(wrap64 (x1_1 - ((rdOf ByteArray.empty l0 x5_1).size : Int))), (wrap64 (x5_1 + 1)), e1_, e1_, H', ⟨by have := HK1.out; omega⟩, dw_⟩
    ·obtain rfl := Option.some.inj H
     go_wp2
     go_ret
     exact ⟨e1_, dw_⟩
def laws_toStringS.l0 : Nat → List ByteArray → List ByteArray → Int → Option (List ByteArray)
 | 0, _, _, _ => none
 | k + 1, x0, x3, x4 => if x4 < (x0.length : Int) then (if 0 ≤ x4 then (if x4 < (x3.length : Int) then (laws_toStringS.l0 k x0 (x3.set (x4 : Int).toNat (rdOf ByteArray.empty x0 x4)) (wrap64 (x4 + 1))) else (none)) else (none)) else (some x3)
def laws_toStringS.f (k : Nat) (l0 : List ByteArray) : Option (List ByteArray) := if 0 ≤ (l0.length : Int) then (if ((l0.length : Int) : Int).toNat ≤ 17592186044416 then (laws_toStringS.l0 k l0 (List.replicate ((l0.length : Int) : Int).toNat (⟨#[]⟩ : ByteArray)) 0) else (none)) else (none)
set_option maxHeartbeats 8000000 in
set_option maxRecDepth 100000 in
theorem laws_toStringS.calls (k : Nat) (A0 : Option Addr) (c0 : Nat) (l0 : List ByteArray) (r : List ByteArray) (w : World) (hr0 : Kd.C Kd.string w A0 l0.length l0) (hc0 : l0.length ≤ c0) (h : laws_toStringS.f k l0 = some r) :
  Calls Tryz.prog 112 #[.slice A0 l0.length c0] w fun e w' => ∃ v0_ : Value, e = .returned (v0_) ∧ Kd.R Kd.string 9 w' w.heap.size (fun _ => True) v0_ r ∧ Below w.heap.size w w' := by
 have HR0 := Aside0.mk hr0
 have HC0 := Aside0.mk hc0
 clear hr0 hc0
 have HB := Aside0.mk (Below.refl w.heap.size w)
 have H : (if 0 ≤ (l0.length : Int) then (if ((l0.length : Int) : Int).toNat ≤ 17592186044416 then (laws_toStringS.l0 k l0 (List.replicate ((l0.length : Int) : Int).toNat (⟨#[]⟩ : ByteArray)) 0) else (none)) else (none)) = some r := h
 clear h
 replace H := ip_ H; obtain ⟨c2, H⟩ := H
 have c2b0 := eq_true c2
 have c2b1 := decide_eq_true c2
 clear c2
 replace H := ip_ H; obtain ⟨c3, H⟩ := H
 have c3b0 := eq_true c3
 have c3b1 := decide_eq_true c3
 clear c3
 obtain ⟨y601, hy601⟩ : ∃ y_ : List ByteArray, y_ = (List.replicate ((l0.length : Int) : Int).toNat (⟨#[]⟩ : ByteArray)) := ⟨_, rfl⟩
 replace H : (laws_toStringS.l0 k l0 y601 0) = some r := yh_ hy601 H
 have Ny601 := Aside0.mk hy601
 clear hy601
 have H' := Aside0.mk H
 clear H
 go_enter Tryz.func112, Tryz.ntmps112
 go_wp2_with (first | ((with_reducible refine gd_ 7 ?_); refine Kd.R_make Kd.string _ 9 rfl (N := 7) rfl 22 _ _ rfl (l0.length : Int) rfl rfl Tryz.underlying22 (.string ⟨#[]⟩) 16 info9 rfl (by decide) (by omega) (⟨#[]⟩ : ByteArray) (ok := fun _ => True) (okp := fun _ => True) rfl (fun _ hk => hk) trivial (of_decide_eq_true as_) (Nat.le_trans (Nat.mul_le_mul_right _ (of_decide_eq_true as_ : (l0.length : Int).toNat ≤ 17592186044416)) (by omega)) (Below.refl _ _) (Nat.le_refl _) ?_; intro v602 w4 ho5 hb hg_ hnew_; clear hg_ hnew_; (first | rw [← Ny601.out] at ho5 | (simp only [Int.reduceToNat] at ho5; rw [← Ny601.out] at ho5)); have HO603 := Aside0.mk (Kd.R_lower ho5 (sz_ HB)); replace HB := ss_ HB hb; clear hb ho5))
 go_loopg [4] k (fun kq v4 w' => ∃ (x3_1 : List ByteArray) (x4_1 : Int), v4 = .int .i64 x4_1 ∧ Aside0 (laws_toStringS.l0 kq l0 x3_1 x4_1 = some r) ∧ Aside0 (kq ≤ k) ∧ Aside0 (Kd.R Kd.string 9 w' w.heap.size (fun _ => True) v602 x3_1) ∧ Aside0 (Below w.heap.size w w'))
 case atStart => exact ⟨(y601), (0), e1_, H', ⟨Nat.le_refl _⟩, ⟨kr_ HO603.out⟩, ⟨bw_ HB⟩⟩
 case round =>
  clear H'
  try clear c2
  try clear c2b0
  try clear c2b1
  try clear c3
  try clear c3b0
  try clear c3b1
  obtain ⟨x3_1, x4_1, rfl, HA, HK1, HO_3, HB⟩ := hrel
  cases gk with
  | zero => exact absurd HA.out (by simp [laws_toStringS.l0])
  | succ k1 =>
   have H := HA.out
   clear HA
   simp only [laws_toStringS.l0] at H
   replace H := itd_ H; obtain ⟨c6b0, H⟩ | ⟨c6b0, H⟩ := H
   ·replace H := ipd_ H; obtain ⟨c7b0, H⟩ := H
    replace H := ipd_ H; obtain ⟨c8b0, H⟩ := H
    obtain ⟨y605, hy605⟩ : ∃ y_ : List ByteArray, y_ = (x3_1.set (x4_1 : Int).toNat (rdOf ByteArray.empty l0 x4_1)) := ⟨_, rfl⟩
    replace H : (laws_toStringS.l0 k1 l0 y605 (wrap64 (x4_1 + 1))) = some r := yh_ hy605 H
    have Ny605 := Aside0.mk hy605
    clear hy605
    have H' := Aside0.mk H
    clear H
    have p604 : 0 ≤ (x4_1 : Int) := of_decide_eq_true as_
    have q604 : x4_1 < (l0.length : Int) := of_decide_eq_true as_
    obtain ⟨ad604, e604, hx604_0⟩ := Kd.at_string HR0.out x4_1 p604 q604
    cases e604
    replace hx604_0 := cw_ HB hx604_0
    replace p604 := eq_true p604
    replace q604 := eq_true q604
    have p9 : 0 ≤ (x4_1 : Int) := of_decide_eq_true as_
    have q9 : (x4_1 : Int) < ((x3_1.length : Int) : Int) := of_decide_eq_true as_
    obtain ⟨go9, co9, eo9, gb9, gl9, cl9, HG9⟩ := Kd.R_form HO_3.out (by omega)
    (first | cases eo9 | (injection eo9 with ea_ en_ ec_; (first | subst ea_ | (injection ea_ with ea_; subst ea_)); subst ec_; clear en_))
    have GB9 := Aside0.mk gb9
    have GG9 := Aside0.mk HG9
    clear gb9 gl9 HG9
    obtain ⟨hx9_0, hf9_0⟩ := Kd.R_celln (⟨#[]⟩ : ByteArray) HO_3.out (x4_1 : Int) p9 q9
    replace p9 := eq_true p9
    replace q9 := eq_true q9
    have HP10 := Kd.R_putg HO_3.out (x4_1 : Int) (rdOf ByteArray.empty l0 x4_1)
    go_wp2_with (first | ((with_reducible refine gate_store (t := 9) (p := 20) rfl ?_); refine store_event (t := 9) (p := 20) (v := ?vo_w11) (w1 := (wr.setCell ⟨go9, (x4_1 : Int).toNat, none⟩ (.string (rdOf ByteArray.empty l0 x4_1)))) ?hg ?ho ?hn ?hr ?_; (case ho => rfl); (case hg => rfl); (case hn => rfl); (case hr => first | (go_simp; done) | (go_simp; rfl)); intro w11 hw; have hg : wr.grownBy w11 (some go9) := (by rw [hw]; exact HP10.2); have hp_ : Kd.R Kd.string 9 w11 w.heap.size (fun _ => True) (.slice (some ⟨go9, 0, none⟩) x3_1.length co9) y605 := (by rw [hw, Ny605.out]; exact HP10.1); clear HP10; replace HO_3 := Aside0.mk hp_; replace HB := Aside0.mk ((by rw [hw]; exact below_set (HB.out) GB9.out : Below w.heap.size w w11)); clear hg hw hp_))
    go_roundg k1
    case measure => have := HK1.out; omega
    case rel => exact ⟨(y605), (wrap64 (x4_1 + 1)), e1_, H', ⟨by have := HK1.out; omega⟩, ⟨kr_ HO_3.out⟩, ⟨bw_ HB⟩⟩
   ·obtain rfl := Option.some.inj H
    go_wp2
    go_ret
    exact ⟨_, e2_, kr_ HO_3.out, bw_ HB⟩
def laws_eqStringS.l0 : Nat → List ByteArray → List ByteArray → Int → Option (Bool)
 | 0, _, _, _ => none
 | k + 1, x0, x1, x5 => if x5 < (x0.length : Int) then (if 0 ≤ x5 then (if x5 < (x1.length : Int) then (if (rdOf ByteArray.empty x0 x5).toList = (rdOf ByteArray.empty x1 x5).toList then (laws_eqStringS.l0 k x0 x1 (wrap64 (x5 + 1))) else (none)) else (none)) else (none)) else (some true)
def laws_eqStringS.f (k : Nat) (l0 : List ByteArray) (l1 : List ByteArray) : Option (Bool) := if (l0.length : Int) = (l1.length : Int) then (laws_eqStringS.l0 k l0 l1 0) else (none)
set_option maxHeartbeats 8000000 in
set_option maxRecDepth 100000 in
theorem laws_eqStringS.calls (k : Nat) (A0 : Option Addr) (c0 : Nat) (l0 : List ByteArray) (A1 : Option Addr) (c1 : Nat) (l1 : List ByteArray) (r : Bool) (w : World) (hr0 : Kd.C Kd.string w A0 l0.length l0) (hc0 : l0.length ≤ c0) (hr1 : Kd.C Kd.string w A1 l1.length l1) (hc1 : l1.length ≤ c1) (h : laws_eqStringS.f k l0 l1 = some r) :
  Calls Tryz.prog 81 #[.slice A0 l0.length c0, .slice A1 l1.length c1] w fun e w' => e = .returned (.bool r) ∧ Drawn0 w w' := by
 have HR0 := Aside0.mk hr0
 have HC0 := Aside0.mk hc0
 clear hr0 hc0
 have HR1 := Aside0.mk hr1
 have HC1 := Aside0.mk hc1
 clear hr1 hc1
 have H : (if (l0.length : Int) = (l1.length : Int) then (laws_eqStringS.l0 k l0 l1 0) else (none)) = some r := h
 clear h
 replace H := ip_ H; obtain ⟨c3, H⟩ := H
 have c3b0 : ((l0.length : Int) == (l1.length : Int)) = true := beq_iff_eq.mpr c3
 have c3b1 : ((l0.length : Int) != (l1.length : Int)) = false := bne_eq_false_iff_eq.mpr c3
 have c3b2 : (l0.length == l1.length) = true := by first | simpa using c3 | (simp at c3 ⊢; omega)
 clear c3
 have H' := Aside0.mk H
 clear H
 go_enter Tryz.func81, Tryz.ntmps81
 go_wp2
 repeat (go_quiet (fail); try go_wp2)
 go_loopg [5] k (fun kq v5 w' => ∃ (x5_1 : Int), v5 = .int .i64 x5_1 ∧ Aside0 (laws_eqStringS.l0 kq l0 l1 x5_1 = some r) ∧ Aside0 (kq ≤ k) ∧ Drawn0 w w')
 case atStart => exact ⟨(0), e1_, H', ⟨Nat.le_refl _⟩, dw_⟩
 case round =>
  clear H'
  try clear c3
  try clear c3b0
  try clear c3b1
  try clear c3b2
  obtain ⟨x5_1, rfl, HA, HK1, ⟨m1, rfl⟩⟩ := hrel
  cases gk with
  | zero => exact absurd HA.out (by simp [laws_eqStringS.l0])
  | succ k1 =>
   have H := HA.out
   clear HA
   simp only [laws_eqStringS.l0] at H
   replace H := itd_ H; obtain ⟨c4b0, H⟩ | ⟨c4b0, H⟩ := H
   ·replace H := ipd_ H; obtain ⟨c5b0, H⟩ := H
    replace H := ipd_ H; obtain ⟨c6b0, H⟩ := H
    replace H := ip_ H; obtain ⟨c7, H⟩ := H
    have c7b0 : ((rdOf ByteArray.empty l0 x5_1).toList == (rdOf ByteArray.empty l1 x5_1).toList) = true := beq_iff_eq.mpr c7
    have c7b1 : ((rdOf ByteArray.empty l0 x5_1).toList != (rdOf ByteArray.empty l1 x5_1).toList) = false := bne_eq_false_iff_eq.mpr c7
    clear c7
    have H' := Aside0.mk H
    clear H
    have p601 : 0 ≤ (x5_1 : Int) := of_decide_eq_true as_
    have q601 : x5_1 < (l0.length : Int) := of_decide_eq_true as_
    obtain ⟨ad601, e601, hx601_0⟩ := Kd.at_string HR0.out x5_1 p601 q601
    cases e601
    replace p601 := eq_true p601
    replace q601 := eq_true q601
    have p602 : 0 ≤ (x5_1 : Int) := of_decide_eq_true as_
    have q602 : x5_1 < (l1.length : Int) := of_decide_eq_true as_
    obtain ⟨ad602, e602, hx602_0⟩ := Kd.at_string HR1.out x5_1 p602 q602
    cases e602
    replace p602 := eq_true p602
    replace q602 := eq_true q602
    go_wp2
    repeat (go_quiet (fail); try go_wp2)
    go_roundg k1
    case measure => have := HK1.out; omega
    case rel => exact ⟨(wrap64 (x5_1 + 1)), e1_, H', ⟨by have := HK1.out; omega⟩, dw_⟩
   ·obtain rfl := Option.some.inj H
    go_wp2
    repeat (go_quiet (fail); try go_wp2)
    go_ret
    exact ⟨e1_, dw_⟩
end Go.Proofs.YtnlndmoecljicaaGreat.Q
end
section
namespace Go.Proofs.YtnlndmoecljicaaGreat.Q
open Go.RowKit Go.Proofs.YtnlndmoecljicaaGreat.B Go.Proofs.YtnlndmoecljicaaGreatW.PrintWords
theorem rdS {l : List ByteArray} {i : Nat} {x : ByteArray} (h : l[i]? = some x) : rdOf ByteArray.empty l (i : Int) = x := rdOf_at h
theorem nextS {i n : Nat} (h : i < n) (hn : n ≤ 9223372036854775807) : wrap64 ((i : Int) + 1) = ((i + 1 : Nat) : Int) := by
 rw [w64 (by omega) (by omega)]
 omega
theorem szStringS_ev (l : List ByteArray) (left : Int) (h0 : 0 ≤ left) (h1 : left ≤ 1048576) (hl : l.length ≤ 9223372036854775807) (hg : ∀ x ∈ l, x.size ≤ 9223372036854775807) :
  ∃ r, Ev (fun k => laws_szStringS.f k l left) r ∧ (r < 0 ∨ 0 ≤ r ∧ r + l.length + total l = left) := by
 have main : ∀ (d i : Nat) (q : Int), i + d = l.length → 0 ≤ q → q ≤ 1048576 → ∃ r, Ev (fun k => laws_szStringS.l0 k l q (i : Int)) r ∧ (r < 0 ∨ 0 ≤ r ∧ r + total (l.drop i) = q) := by
  intro d
  induction d with
  | zero =>
   intro i q hi hq hq1
   refine ⟨q, Ev.step (f := fun _ => some q) (fun k => ?_) (Ev.now q), .inr ⟨hq, ?_⟩⟩
   ·simp only [laws_szStringS.l0]
    rw [if_neg (by omega)]
   ·rw [List.drop_of_length_le (by omega)]
    simp [total]
  | succ d ih =>
   intro i q hi hq hq1
   obtain ⟨x, hx⟩ := get_some (l := l) (i := i) (by omega)
   have hs := hg x (List.mem_of_getElem? hx)
   have hw : wrap64 (q - (x.size : Int)) = q - (x.size : Int) := w64 (by omega) (by omega)
   by_cases hc : q - (x.size : Int) < 0
   ·refine ⟨-1, Ev.step (f := fun _ => some (-1)) (fun k => ?_) (Ev.now _), .inl (by omega)⟩
    simp only [laws_szStringS.l0]
    rw [if_pos (by omega), if_pos (by omega), rdS hx, hw, if_pos hc]
   ·obtain ⟨r2, h2, h3⟩ := ih (i + 1) (q - x.size) (by omega) (by omega) (by omega)
    refine ⟨r2, Ev.step (fun k => ?_) h2, ?_⟩
    ·simp only [laws_szStringS.l0]
     rw [if_pos (by omega), if_pos (by omega), rdS hx, hw, if_neg hc, nextS (show i < l.length by omega) hl]
    ·rw [drop_one hx, total_cons]
     omega
 have hw : wrap64 (left - (l.length : Int)) = left - (l.length : Int) := w64 (by omega) (by omega)
 by_cases h : left - (l.length : Int) < 0
 ·refine ⟨-1, Ev.congr (fun k => ?_) (Ev.now (-1)), .inl (by omega)⟩
  unfold laws_szStringS.f
  rw [hw, if_pos h]
 ·obtain ⟨r, h2, h3⟩ := main l.length 0 (left - l.length) (by omega) (by omega) (by omega)
  refine ⟨r, Ev.congr (fun k => ?_) h2, ?_⟩
  ·unfold laws_szStringS.f
   rw [hw, if_neg h]
   rfl
  ·rw [List.drop_zero] at h3
   omega
theorem toStringS_ev (l : List ByteArray) (hl : l.length ≤ 1048576) : Ev (fun k => laws_toStringS.f k l) l := by
 have main : ∀ (d i : Nat) (acc : List ByteArray), i + d = l.length → acc.length = l.length → acc.take i = l.take i → Ev (fun k => laws_toStringS.l0 k l acc (i : Int)) l := by
  intro d
  induction d with
  | zero =>
   intro i acc hi ha ht
   refine Ev.step (f := fun _ => some l) (fun k => ?_) (Ev.now _)
   simp only [laws_toStringS.l0]
   rw [if_neg (by omega)]
   rw [List.take_of_length_le (by omega), List.take_of_length_le (by omega)] at ht
   rw [ht]
  | succ d ih =>
   intro i acc hi ha ht
   obtain ⟨x, hx⟩ := get_some (l := l) (i := i) (by omega)
   refine Ev.step (fun k => ?_) (ih (i + 1) (acc.set i x) (by omega) (by simp [ha]) ?_)
   ·simp only [laws_toStringS.l0]
    rw [if_pos (by omega), if_pos (by omega), if_pos (by omega), rdS hx, nextS (show i < l.length by omega) (by omega)]
    rfl
   ·rw [set_take _ (by omega), ht, take_one hx]
 refine Ev.congr (fun k => ?_) (main l.length 0 (List.replicate l.length (⟨#[]⟩ : ByteArray)) (by omega) (by simp) (by simp))
 unfold laws_toStringS.f
 rw [if_pos (by omega), if_pos (by simp; omega)]
 rfl
theorem eqStringS_ev (l : List ByteArray) (hl : l.length ≤ 9223372036854775807) : Ev (fun k => laws_eqStringS.f k l l) true := by
 have main : ∀ (d i : Nat), i + d = l.length → Ev (fun k => laws_eqStringS.l0 k l l (i : Int)) true := by
  intro d
  induction d with
  | zero =>
   intro i hi
   refine Ev.step (f := fun _ => some true) (fun k => ?_) (Ev.now _)
   simp only [laws_eqStringS.l0]
   rw [if_neg (by omega)]
  | succ d ih =>
   intro i hi
   refine Ev.step (fun k => ?_) (ih (i + 1) (by omega))
   simp only [laws_eqStringS.l0]
   rw [if_pos (by omega), if_pos (by omega), if_pos (by omega), if_pos trivial, nextS (show i < l.length by omega) hl]
 refine Ev.congr (fun k => ?_) (main l.length 0 (by omega))
 unfold laws_eqStringS.f
 rw [if_pos rfl]
 rfl
end Go.Proofs.YtnlndmoecljicaaGreat.Q
end
section
namespace Go.Proofs.YtnlndmoecljicaaGreat.Q
open Go.RowKit Go.Proofs.YtnlndmoecljicaaGreatW.PrintWords Go.Proofs.YtnlndmoecljicaaGreatW.PrintLast Go.Proofs.YtnlndmoecljicaaGreatW.PrintMore
attribute [local go_sem] max2_int min2_int max_two min_two max_three min_three max_four min_four   -- for this text's walks alone
set_option linter.unusedVariables false
set_option linter.unusedSimpArgs false
def laws_szLog.f (k : Nat) (l0_0 : List ByteArray) (a0_1 : Int) (a0_2 : ByteArray) (a1 : Int) : Option (Int) := (laws_szStringS.f k l0_0 a1).bind fun t602 => (if t602 < 0 then (some (-1)) else ((laws_szHead.f a0_1 a0_2 t602).bind fun t603 => (if t603 < 0 then (some (-1)) else (some t603))))
set_option maxHeartbeats 8000000 in
set_option maxRecDepth 100000 in
theorem laws_szLog.calls (k : Nat) (A0_0 : Option Addr) (c0_0 : Nat) (l0_0 : List ByteArray) (a0_1 : Int) (a0_2 : ByteArray) (a1 : Int) (r : Int) (w : World) (hr0_0 : Kd.C Kd.string w A0_0 l0_0.length l0_0) (hc0_0 : l0_0.length ≤ c0_0) (h : laws_szLog.f k l0_0 a0_1 a0_2 a1 = some r) :
  Calls Tryz.prog 70 #[.agg #[.slice A0_0 l0_0.length c0_0, .int .i64 a0_1, .string a0_2], .int .i64 a1] w fun e w' => e = .returned (.int .i64 r) ∧ Below w.heap.size w w' := by
 have hu26 := Tryz.underlying26
 have hu24 := Tryz.underlying24
 have HR0_0 := Aside0.mk hr0_0
 have HC0_0 := Aside0.mk hc0_0
 clear hr0_0 hc0_0
 have HB := Aside0.mk (Below.refl w.heap.size w)
 have H : ((laws_szStringS.f k l0_0 a1).bind fun t602 => (if t602 < 0 then (some (-1)) else ((laws_szHead.f a0_1 a0_2 t602).bind fun t603 => (if t603 < 0 then (some (-1)) else (some t603))))) = some r := h
 clear h
 replace H := bi_ H; obtain ⟨t602, A3, H⟩ := H
 replace H := itd_ H; obtain ⟨c4b0, H⟩ | ⟨c4b0, H⟩ := H
 ·obtain rfl := Option.some.inj H
  go_enter Tryz.func70, Tryz.ntmps70
  go_wp2_with (first | ((with_reducible refine gd_ 2 ?_); refine bx_ 2 26 #[.slice A0_0 l0_0.length c0_0, .int .i64 a0_1, .string a0_2] ?_; intro gb601 hg w5 hbox hb; have BK601 := Aside0.mk hbox; have GW601 := gg_ hg HB; have GE601 := GW601; replace HB := ss_ HB hb; clear hb hbox hg; have hz6 := cz3_ BK601) | ((with_reducible refine gq_ 106 8 ?_); refine gc_ 8 Tryz.func106 (laws_szStringS.calls k _ _ l0_0 a1 t602 _ (cb_ HR0_0 HB) HC0_0.out A3.out) ?_; rintro e w' ⟨rfl, ⟨nd, rfl⟩⟩; refine ⟨_, rfl, ?_⟩))
  go_ret
  exact ⟨e2_, bw_ HB⟩
 ·replace H := bi_ H; obtain ⟨t603, A7, H⟩ := H
  replace H := itd_ H; obtain ⟨c8b0, H⟩ | ⟨c8b0, H⟩ := H
  ·obtain rfl := Option.some.inj H
   go_enter Tryz.func70, Tryz.ntmps70
   go_wp2_with (first | ((with_reducible refine gd_ 2 ?_); refine bx_ 2 26 #[.slice A0_0 l0_0.length c0_0, .int .i64 a0_1, .string a0_2] ?_; intro gb601 hg w9 hbox hb; have BK601 := Aside0.mk hbox; have GW601 := gg_ hg HB; have GE601 := GW601; replace HB := ss_ HB hb; clear hb hbox hg; have hz10 := cz3_ BK601) | ((with_reducible refine gq_ 106 8 ?_); refine gc_ 8 Tryz.func106 (laws_szStringS.calls k _ _ l0_0 a1 t602 _ (cb_ HR0_0 HB) HC0_0.out A3.out) ?_; rintro e w' ⟨rfl, ⟨nd, rfl⟩⟩; refine ⟨_, rfl, ?_⟩) | ((with_reducible refine gq_ 38 14 ?_); refine gc_ 14 Tryz.func38 (laws_szHead.calls a0_1 a0_2 t602 t603 _ A7.out) ?_; rintro e w11 ⟨rfl, hb⟩; refine ⟨_, rfl, ?_⟩; replace BK601 := kl_ BK601 hb; replace HB := ss_ HB hb; clear hb))
   go_ret
   exact ⟨e2_, bw_ HB⟩
  ·obtain rfl := Option.some.inj H
   go_enter Tryz.func70, Tryz.ntmps70
   go_wp2_with (first | ((with_reducible refine gd_ 2 ?_); refine bx_ 2 26 #[.slice A0_0 l0_0.length c0_0, .int .i64 a0_1, .string a0_2] ?_; intro gb601 hg w12 hbox hb; have BK601 := Aside0.mk hbox; have GW601 := gg_ hg HB; have GE601 := GW601; replace HB := ss_ HB hb; clear hb hbox hg; have hz13 := cz3_ BK601) | ((with_reducible refine gq_ 106 8 ?_); refine gc_ 8 Tryz.func106 (laws_szStringS.calls k _ _ l0_0 a1 t602 _ (cb_ HR0_0 HB) HC0_0.out A3.out) ?_; rintro e w' ⟨rfl, ⟨nd, rfl⟩⟩; refine ⟨_, rfl, ?_⟩) | ((with_reducible refine gq_ 38 14 ?_); refine gc_ 14 Tryz.func38 (laws_szHead.calls a0_1 a0_2 t602 t603 _ A7.out) ?_; rintro e w14 ⟨rfl, hb⟩; refine ⟨_, rfl, ?_⟩; replace BK601 := kl_ BK601 hb; replace HB := ss_ HB hb; clear hb))
   go_ret
   exact ⟨e2_, bw_ HB⟩
def laws_toLog.f (k : Nat) (l0_0 : List ByteArray) (a0_1 : Int) (a0_2 : ByteArray) : Option (List ByteArray × Int × ByteArray) := (laws_toStringS.f k l0_0).bind fun t604 => ((laws_toHead.f a0_1 a0_2).bind fun bt607 => (some (t604, bt607.1, bt607.2)))
set_option maxHeartbeats 8000000 in
set_option maxRecDepth 100000 in
theorem laws_toLog.calls (k : Nat) (A0_0 : Option Addr) (c0_0 : Nat) (l0_0 : List ByteArray) (a0_1 : Int) (a0_2 : ByteArray) (r1 : List ByteArray) (r2 : Int) (r3 : ByteArray) (w : World) (hr0_0 : Kd.C Kd.string w A0_0 l0_0.length l0_0) (hc0_0 : l0_0.length ≤ c0_0) (h : laws_toLog.f k l0_0 a0_1 a0_2 = some (r1, r2, r3)) :
  Calls Tryz.prog 77 #[.agg #[.slice A0_0 l0_0.length c0_0, .int .i64 a0_1, .string a0_2]] w fun e w' => ∃ v0_ : Value, e = .returned (.agg #[v0_, .int .i64 r2, .string r3]) ∧ Kd.R Kd.string 9 w' w.heap.size (fun _ => True) v0_ r1 ∧ Below w.heap.size w w' := by
 have hu26 := Tryz.underlying26
 have hu39 := Tryz.underlying39
 have hu24 := Tryz.underlying24
 have hu37 := Tryz.underlying37
 have HR0_0 := Aside0.mk hr0_0
 have HC0_0 := Aside0.mk hc0_0
 clear hr0_0 hc0_0
 have HB := Aside0.mk (Below.refl w.heap.size w)
 have H : ((laws_toStringS.f k l0_0).bind fun t604 => ((laws_toHead.f a0_1 a0_2).bind fun bt607 => (some (t604, bt607.1, bt607.2)))) = some (r1, r2, r3) := h
 clear h
 replace H := bi_ H; obtain ⟨t604, A2, H⟩ := H
 replace H := bi_ H; obtain ⟨⟨t607, t608⟩, A3, H⟩ := H
 dsimp only at H
 replace H := so3_ H; obtain ⟨rfl, rfl, rfl⟩ := H
 go_enter Tryz.func77, Tryz.ntmps77
 go_wp2_with (first | ((with_reducible refine gd_ 1 ?_); refine bx_ 1 26 #[.slice A0_0 l0_0.length c0_0, .int .i64 a0_1, .string a0_2] ?_; intro gb601 hg w4 hbox hb; have BK601 := Aside0.mk hbox; have GW601 := gg_ hg HB; have GE601 := GW601; replace HB := ss_ HB hb; clear hb hbox hg) | ((with_reducible refine gd_ 2 ?_); refine bx_ 2 39 #[.slice none 0 0, .int .i64 0, .string (⟨#[]⟩ : ByteArray)] ?_; intro gb602 hg w5 hbox hb; have BK602 := Aside0.mk hbox; have GW602 := gg_ hg HB; have GE602 := GW602; replace HB := ss_ HB hb; have NB601_602 := nla_ hg BK601; have NB602_601 := nga_ hg BK601; replace BK601 := kl_ BK601 hb; clear hb hbox hg) | ((with_reducible refine gd_ 3 ?_); refine bx_ 3 39 #[.slice none 0 0, .int .i64 0, .string (⟨#[]⟩ : ByteArray)] ?_; intro gb603 hg w6 hbox hb; have BK603 := Aside0.mk hbox; have GW603 := gg_ hg HB; have GE603 := GW603; replace HB := ss_ HB hb; have NB601_603 := nla_ hg BK601; have NB603_601 := nga_ hg BK601; replace BK601 := kl_ BK601 hb; have NB602_603 := nla_ hg BK602; have NB603_602 := nga_ hg BK602; replace BK602 := kl_ BK602 hb; clear hb hbox hg; have hnb7 := NB601_602.out; have hnc7 := NB602_601.out; have hnb8 := NB601_603.out; have hnc8 := NB603_601.out; have hz9 := cz3_ BK601) | ((with_reducible refine gq_ 112 6 ?_); refine gc_ 6 Tryz.func112 (laws_toStringS.calls k _ _ l0_0 t604 _ (cb_ HR0_0 HB) HC0_0.out A2.out) ?_; rintro e w10 ⟨v605, rfl, ho0, hb⟩; refine ⟨_, rfl, ?_⟩; have HO606 := Aside0.mk (Kd.R_lower ho0 (sz_ HB)); replace BK601 := kl_ BK601 hb; replace BK602 := kl_ BK602 hb; replace BK603 := kl_ BK603 hb; replace HB := ss_ HB hb; clear hb ho0; obtain ⟨Ao11, co11, eo11⟩ := Kd.R_slice HO606.out; subst eo11; have hnb12 := NB603_602.out; have hnc12 := NB602_603.out; have hz13 := cz3_ BK603; have hz14 := cz3_ BK601) | ((with_reducible refine gq_ 42 10 ?_); refine gc_ 10 Tryz.func42 (laws_toHead.calls a0_1 a0_2 t607 t608 _ A3.out) ?_; rintro e w15 ⟨rfl, hb⟩; refine ⟨_, rfl, ?_⟩; replace HO606 := rbf_ HO606 BK603 hb; replace BK601 := kp_ BK601 hb; replace BK602 := kp_ BK602 hb; replace BK603 := kp_ BK603 hb; replace HB := ss_ HB hb; clear hb; have hz16 := cz3_ BK603; have hz17 := cz3_ BK602))
 refine bodyPost_ret (results_cell_row rfl _ _ gb602 39 #[.slice Ao11 t604.length co11, .int .i64 t607, .string t608] (0, 0) _ rfl (by exact kq_ BK602) Tryz.underlying39 rfl (by kernel_rfl)) rfl ?_
 exact ⟨_, e2_, by (with_reducible repeat (first | apply Kd.R_alloc | apply Kd.R_drewN | apply Kd.R_drew)); exact Kd.R_mono (Kd.R_far (p := ⟨gb602, 2, none⟩) (Kd.R_far (p := ⟨gb602, 1, none⟩) (Kd.R_far (p := ⟨gb602, 0, none⟩) (Kd.R_far (p := ⟨gb603, 2, none⟩) (Kd.R_far (p := ⟨gb603, 1, none⟩) (Kd.R_types (Kd.R_types HO606.out BK603.out (by decide)) BK602.out (by decide)) (fun _ hk => hk.1.2) (.int .i64 t607)) (fun _ hk => hk.1.2) (.string t608)) (fun _ hk => hk.2) (.slice Ao11 t604.length co11)) (fun _ hk => hk.2) (.int .i64 t607)) (fun _ hk => hk.2) (.string t608)) (fun _ hk => trivial), bw_ HB⟩
def laws_eqLog.f (k : Nat) (l0_0 : List ByteArray) (a0_1 : Int) (a0_2 : ByteArray) (l1_0 : List ByteArray) (a1_1 : Int) (a1_2 : ByteArray) : Option (Bool) := (laws_eqStringS.f k l0_0 l1_0).bind fun t603 => (if t603 = true then ((laws_eqHead.f a0_1 a0_2 a1_1 a1_2).bind fun t604 => (if t604 = true then (some true) else (none))) else (none))
set_option maxHeartbeats 8000000 in
set_option maxRecDepth 100000 in
theorem laws_eqLog.calls (k : Nat) (A0_0 : Option Addr) (c0_0 : Nat) (l0_0 : List ByteArray) (a0_1 : Int) (a0_2 : ByteArray) (A1_0 : Option Addr) (c1_0 : Nat) (l1_0 : List ByteArray) (a1_1 : Int) (a1_2 : ByteArray) (r : Bool) (w : World) (hr0_0 : Kd.C Kd.string w A0_0 l0_0.length l0_0) (hc0_0 : l0_0.length ≤ c0_0) (hr1_0 : Kd.C Kd.string w A1_0 l1_0.length l1_0) (hc1_0 : l1_0.length ≤ c1_0) (h : laws_eqLog.f k l0_0 a0_1 a0_2 l1_0 a1_1 a1_2 = some r) :
  Calls Tryz.prog 82 #[.agg #[.slice A0_0 l0_0.length c0_0, .int .i64 a0_1, .string a0_2], .agg #[.slice A1_0 l1_0.length c1_0, .int .i64 a1_1, .string a1_2]] w fun e w' => e = .returned (.bool r) ∧ Below w.heap.size w w' := by
 have hu39 := Tryz.underlying39
 have hu37 := Tryz.underlying37
 have HR0_0 := Aside0.mk hr0_0
 have HC0_0 := Aside0.mk hc0_0
 clear hr0_0 hc0_0
 have HR1_0 := Aside0.mk hr1_0
 have HC1_0 := Aside0.mk hc1_0
 clear hr1_0 hc1_0
 have HB := Aside0.mk (Below.refl w.heap.size w)
 have H : ((laws_eqStringS.f k l0_0 l1_0).bind fun t603 => (if t603 = true then ((laws_eqHead.f a0_1 a0_2 a1_1 a1_2).bind fun t604 => (if t604 = true then (some true) else (none))) else (none))) = some r := h
 clear h
 replace H := bi_ H; obtain ⟨t603, A3, H⟩ := H
 replace H := ipb_ H; obtain ⟨rfl, H⟩ := H
 replace H := bi_ H; obtain ⟨t604, A5, H⟩ := H
 replace H := ipb_ H; obtain ⟨rfl, H⟩ := H
 obtain rfl := Option.some.inj H
 go_enter Tryz.func82, Tryz.ntmps82
 go_wp2_with (first | ((with_reducible refine gd_ 2 ?_); refine bx_ 2 39 #[.slice A0_0 l0_0.length c0_0, .int .i64 a0_1, .string a0_2] ?_; intro gb601 hg w7 hbox hb; have BK601 := Aside0.mk hbox; have GW601 := gg_ hg HB; have GE601 := GW601; replace HB := ss_ HB hb; clear hb hbox hg) | ((with_reducible refine gd_ 3 ?_); refine bx_ 3 39 #[.slice A1_0 l1_0.length c1_0, .int .i64 a1_1, .string a1_2] ?_; intro gb602 hg w8 hbox hb; have BK602 := Aside0.mk hbox; have GW602 := gg_ hg HB; have GE602 := GW602; replace HB := ss_ HB hb; have NB601_602 := nla_ hg BK601; have NB602_601 := nga_ hg BK601; replace BK601 := kl_ BK601 hb; clear hb hbox hg; have hnb9 := NB601_602.out; have hnc9 := NB602_601.out; have hz10 := cz3_ BK601; have hz11 := cz3_ BK602) | ((with_reducible refine gq_ 81 9 ?_); refine gc_ 9 Tryz.func81 (laws_eqStringS.calls k _ _ l0_0 _ _ l1_0 true _ (cb_ HR0_0 HB) HC0_0.out (cb_ HR1_0 HB) HC1_0.out A3.out) ?_; rintro e w' ⟨rfl, ⟨nd, rfl⟩⟩; refine ⟨_, rfl, ?_⟩) | ((with_reducible refine gq_ 46 15 ?_); refine gc_ 15 Tryz.func46 (laws_eqHead.calls a0_1 a0_2 a1_1 a1_2 true _ A5.out) ?_; rintro e w12 ⟨rfl, hb⟩; refine ⟨_, rfl, ?_⟩; replace BK601 := kl_ BK601 hb; replace BK602 := kl_ BK602 hb; replace HB := ss_ HB hb; clear hb))
 go_ret
 exact ⟨e2_, bw_ HB⟩
end Go.Proofs.YtnlndmoecljicaaGreat.Q
end
section
namespace Go.Proofs.YtnlndmoecljicaaGreat.Q
open Go.RowKit Go.Proofs.YtnlndmoecljicaaGreat.B Go.Proofs.YtnlndmoecljicaaGreatW.PrintWords
set_option linter.unusedVariables false
theorem szLog_ev (l : List ByteArray) (n : Int) (s : ByteArray) (left : Int) (h0 : 0 ≤ left) (h1 : left ≤ 1048576) (hl : l.length ≤ 9223372036854775807) (hg : ∀ x ∈ l, x.size ≤ 9223372036854775807) (hs : s.size ≤ 9223372036854775807) :
  ∃ r, Ev (fun k => laws_szLog.f k l n s left) r ∧ (r < 0 ∨ 0 ≤ r ∧ r + l.length + total l + s.size = left) := by
 obtain ⟨a, ha, hc⟩ := szStringS_ev l left h0 h1 hl hg
 unfold laws_szLog.f
 rcases hc with hc | ⟨hc, hc1⟩
 ·exact ⟨-1, Ev.bind ha (Ev.pos hc (Ev.now _)), .inl (by omega)⟩
 ·have ht := total_nonneg l
  obtain ⟨b, hb, hd⟩ := szHead_eq n s a hc (by omega) hs
  rcases hd with hd | ⟨hd, hd1⟩
  ·exact ⟨-1, Ev.bind ha (Ev.neg (by omega) (Ev.bind (Ev.const hb) (Ev.pos hd (Ev.now _)))), .inl (by omega)⟩
  ·exact ⟨b, Ev.bind ha (Ev.neg (by omega) (Ev.bind (Ev.const hb) (Ev.neg (by omega) (Ev.now _)))), .inr ⟨hd, by omega⟩⟩
theorem toLog_ev (l : List ByteArray) (n : Int) (s : ByteArray) (hl : l.length ≤ 1048576) : Ev (fun k => laws_toLog.f k l n s) (l, n, s) := by
 unfold laws_toLog.f
 refine Ev.bind (toStringS_ev l hl) ?_
 simp only [toHead_eq, Option.bind_some]
 exact Ev.now _
theorem eqLog_ev (l : List ByteArray) (n : Int) (s : ByteArray) (hl : l.length ≤ 9223372036854775807) : Ev (fun k => laws_eqLog.f k l n s l n s) true := by
 unfold laws_eqLog.f
 refine Ev.bind (eqStringS_ev l hl) (Ev.pos rfl ?_)
 refine Ev.bind (Ev.const (eqHead_eq n s)) ?_
 exact Ev.pos rfl (Ev.now _)
end Go.Proofs.YtnlndmoecljicaaGreat.Q
end
section
namespace Go.Proofs.YtnlndmoecljicaaGreat.Q
open Go.RowKit Go.Proofs.YtnlndmoecljicaaGreatW.PrintWords Go.Proofs.YtnlndmoecljicaaGreatW.PrintLast Go.Proofs.YtnlndmoecljicaaGreatW.PrintMore
attribute [local go_sem] max2_int min2_int max_two min_two max_three min_three max_four min_four   -- for this text's walks alone
set_option linter.unusedVariables false
set_option linter.unusedSimpArgs false
def laws_eqByteS.l0 : Nat → List Int → List Int → Int → Option (Bool)
 | 0, _, _, _ => none
 | k + 1, x0, x1, x5 => if x5 < (x0.length : Int) then (if 0 ≤ x5 then (if x5 < (x1.length : Int) then (if (rd x0 x5) = (rd x1 x5) then (laws_eqByteS.l0 k x0 x1 (wrap64 (x5 + 1))) else (none)) else (none)) else (none)) else (some true)
def laws_eqByteS.f (k : Nat) (l0 : List Int) (l1 : List Int) : Option (Bool) := if (l0.length : Int) = (l1.length : Int) then (laws_eqByteS.l0 k l0 l1 0) else (none)
set_option maxHeartbeats 8000000 in
set_option maxRecDepth 100000 in
theorem laws_eqByteS.calls (k : Nat) (A0 : Option Addr) (c0 : Nat) (l0 : List Int) (A1 : Option Addr) (c1 : Nat) (l1 : List Int) (r : Bool) (w : World) (hr0 : Kd.C (Kd.int .u8) w A0 l0.length l0) (hc0 : l0.length ≤ c0) (hr1 : Kd.C (Kd.int .u8) w A1 l1.length l1) (hc1 : l1.length ≤ c1) (h : laws_eqByteS.f k l0 l1 = some r) :
  Calls Tryz.prog 83 #[.slice A0 l0.length c0, .slice A1 l1.length c1] w fun e w' => e = .returned (.bool r) ∧ Drawn0 w w' := by
 have HR0 := Aside0.mk hr0
 have HC0 := Aside0.mk hc0
 clear hr0 hc0
 have HR1 := Aside0.mk hr1
 have HC1 := Aside0.mk hc1
 clear hr1 hc1
 have H : (if (l0.length : Int) = (l1.length : Int) then (laws_eqByteS.l0 k l0 l1 0) else (none)) = some r := h
 clear h
 replace H := ip_ H; obtain ⟨c3, H⟩ := H
 have c3b0 : ((l0.length : Int) == (l1.length : Int)) = true := beq_iff_eq.mpr c3
 have c3b1 : ((l0.length : Int) != (l1.length : Int)) = false := bne_eq_false_iff_eq.mpr c3
 have c3b2 : (l0.length == l1.length) = true := by first | simpa using c3 | (simp at c3 ⊢; omega)
 clear c3
 have H' := Aside0.mk H
 clear H
 go_enter Tryz.func83, Tryz.ntmps83
 go_wp2
 repeat (go_quiet (fail); try go_wp2)
 go_loopg [5] k (fun kq v5 w' => ∃ (x5_1 : Int), v5 = .int .i64 x5_1 ∧ Aside0 (laws_eqByteS.l0 kq l0 l1 x5_1 = some r) ∧ Aside0 (kq ≤ k) ∧ Drawn0 w w')
 case atStart => exact ⟨(0), e1_, H', ⟨Nat.le_refl _⟩, dw_⟩
 case round =>
  clear H'
  try clear c3
  try clear c3b0
  try clear c3b1
  try clear c3b2
  obtain ⟨x5_1, rfl, HA, HK1, ⟨m1, rfl⟩⟩ := hrel
  cases gk with
  | zero => exact absurd HA.out (by simp [laws_eqByteS.l0])
  | succ k1 =>
   have H := HA.out
   clear HA
   simp only [laws_eqByteS.l0] at H
   replace H := itd_ H; obtain ⟨c4b0, H⟩ | ⟨c4b0, H⟩ := H
   ·replace H := ipd_ H; obtain ⟨c5b0, H⟩ := H
    replace H := ipd_ H; obtain ⟨c6b0, H⟩ := H
    replace H := ip_ H; obtain ⟨c7, H⟩ := H
    have c7b0 : ((rd l0 x5_1) == (rd l1 x5_1)) = true := beq_iff_eq.mpr c7
    have c7b1 : ((rd l0 x5_1) != (rd l1 x5_1)) = false := bne_eq_false_iff_eq.mpr c7
    clear c7
    have H' := Aside0.mk H
    clear H
    obtain ⟨ad601, e601, hx601_0, p601, q601⟩ := ai_ HR0.out x5_1
    cases e601
    obtain ⟨ad602, e602, hx602_0, p602, q602⟩ := ai_ HR1.out x5_1
    cases e602
    go_wp2
    repeat (go_quiet (fail); try go_wp2)
    go_roundg k1
    case measure => have := HK1.out; omega
    case rel => exact ⟨(wrap64 (x5_1 + 1)), e1_, H', ⟨by have := HK1.out; omega⟩, dw_⟩
   ·obtain rfl := Option.some.inj H
    go_wp2
    repeat (go_quiet (fail); try go_wp2)
    go_ret
    exact ⟨e1_, dw_⟩
def laws_markByteS.l0 : Nat → List Int → Int → Int → Option (Int × List Int)
 | 0, _, _, _ => none
 | k + 1, x0, x1, x5 => if x5 < (x0.length : Int) then (if 0 ≤ x5 then (laws_markByteS.l0 k (x0.set (x5 : Int).toNat ((x1) % 256)) (wrap64 (x1 + 1)) (wrap64 (x5 + 1))) else (none)) else (some (x1, x0))
def laws_markByteS.f (k : Nat) (l0 : List Int) (a1 : Int) : Option (Int × List Int) := laws_markByteS.l0 k l0 a1 0
set_option maxHeartbeats 8000000 in
set_option maxRecDepth 100000 in
theorem laws_markByteS.calls (k : Nat) (P0_ : Nat → Prop) (u9000_ : Value) (l0 : List Int) (a1 : Int) (r1 : Int) (r2 : List Int) (w0 w : World) (hB : Below w0.heap.size w0 w) (ho0 : Kd.R (Kd.int .u8) 5 w w0.heap.size P0_ u9000_ l0) (h : laws_markByteS.f k l0 a1 = some (r1, r2)) :
  Calls Tryz.prog 85 #[u9000_, .int .i64 a1] w fun e w' => e = .returned (.int .i64 r1) ∧ Kd.R (Kd.int .u8) 5 w' w0.heap.size (fun k_ => (P0_ k_ ∨ w.heap.size ≤ k_)) u9000_ r2 ∧ Below w0.heap.size w0 w' ∧ Kept w w' (fun k_ => P0_ k_) := by
 have HO0 := Aside0.mk (show Kd.R (Kd.int .u8) 5 w w0.heap.size (fun k_ => (P0_ k_ ∨ w.heap.size ≤ k_)) u9000_ l0 from Kd.R_mono ho0 (fun k_ hk => (.inl hk)))
 have HK := Aside0.mk (Kept.refl w (fun k_ => P0_ k_))
 have HW0 := Aside0.mk hB.size
 have HB := Aside0.mk hB
 clear hB
 have H : (laws_markByteS.l0 k l0 a1 0) = some (r1, r2) := h
 clear h
 have H' := Aside0.mk H
 clear H
 go_enter Tryz.func85, Tryz.ntmps85
 go_wp2
 go_loopg [1, 5] k (fun kq v1 v5 w' => ∃ (x0_1 : List Int) (x1_1 : Int) (x5_1 : Int), v1 = .int .i64 x1_1 ∧ v5 = .int .i64 x5_1 ∧ Aside0 (laws_markByteS.l0 kq x0_1 x1_1 x5_1 = some (r1, r2)) ∧ Aside0 (kq ≤ k) ∧ Aside0 (Kd.R (Kd.int .u8) 5 w' w0.heap.size (fun k_ => (P0_ k_ ∨ w.heap.size ≤ k_)) u9000_ x0_1) ∧ Aside0 (Kept w w' (fun k_ => P0_ k_)) ∧ Aside0 (Below w0.heap.size w0 w'))
 case atStart => exact ⟨(l0), (a1), (0), e1_, e1_, H', ⟨Nat.le_refl _⟩, ⟨kr_ HO0.out⟩, ⟨kt_ HK⟩, ⟨bw_ HB⟩⟩
 case round =>
  clear H'
  obtain ⟨x0_1, x1_1, x5_1, rfl, rfl, HA, HK1, HO_0, HK, HB⟩ := hrel
  cases gk with
  | zero => exact absurd HA.out (by simp [laws_markByteS.l0])
  | succ k1 =>
   have H := HA.out
   clear HA
   simp only [laws_markByteS.l0] at H
   replace H := itd_ H; obtain ⟨c3b0, H⟩ | ⟨c3b0, H⟩ := H
   ·replace H := ipd_ H; obtain ⟨c4b0, H⟩ := H
    obtain ⟨y601, hy601⟩ : ∃ y_ : List Int, y_ = (x0_1.set (x5_1 : Int).toNat ((x1_1) % 256)) := ⟨_, rfl⟩
    replace H : (laws_markByteS.l0 k1 y601 (wrap64 (x1_1 + 1)) (wrap64 (x5_1 + 1))) = some (r1, r2) := yh_ hy601 H
    have Ny601 := Aside0.mk hy601
    clear hy601
    have H' := Aside0.mk H
    clear H
    obtain ⟨Ao6, co6, eo6⟩ := Kd.R_slice HO_0.out
    subst eo6
    have p5 : 0 ≤ (x5_1 : Int) := of_decide_eq_true as_
    have q5 : (x5_1 : Int) < ((x0_1.length : Int) : Int) := of_decide_eq_true as_
    obtain ⟨go5, co5, eo5, gb5, gl5, cl5, HG5⟩ := Kd.R_form HO_0.out (by omega)
    (first | cases eo5 | (injection eo5 with ea_ en_ ec_; (first | subst ea_ | (injection ea_ with ea_; subst ea_)); subst ec_; clear en_))
    have GB5 := Aside0.mk gb5
    have GG5 := Aside0.mk HG5
    clear gb5 gl5 HG5
    have HMgo5 := Aside0.mk (show (P0_ go5 ∨ w.heap.size ≤ go5) from (HO_0.out.1 _ rfl))
    obtain ⟨hx5_0, hf5_0⟩ := Kd.R_celln 0 HO_0.out (x5_1 : Int) p5 q5
    replace p5 := eq_true p5
    replace q5 := eq_true q5
    have HP7 := Kd.R_putg HO_0.out (x5_1 : Int) ((x1_1) % 256)
    go_wp2_with (first | ((with_reducible refine gate_store (t := 5) (p := 16) rfl ?_); refine store_event (t := 5) (p := 16) (v := ?vo_w8) (w1 := (wr.setCell ⟨go5, (x5_1 : Int).toNat, none⟩ (.int .u8 ((x1_1) % 256)))) ?hg ?ho ?hn ?hr ?_; (case ho => rfl); (case hg => rfl); (case hn => rfl); (case hr => first | (go_simp; done) | (go_simp; rfl)); intro w8 hw; have hg : wr.grownBy w8 (some go5) := (by rw [hw]; exact HP7.2); have hp_ : Kd.R (Kd.int .u8) 5 w8 w0.heap.size (fun k_ => (P0_ k_ ∨ w.heap.size ≤ k_)) (.slice (some ⟨go5, 0, none⟩) x0_1.length co6) y601 := (by rw [hw, Ny601.out]; exact HP7.1); clear HP7; replace HB := Aside0.mk ((by rw [hw]; exact below_set (HB.out) GB5.out : Below w0.heap.size w0 w8)); replace HK := Aside0.mk (Kept.of_grown (S := (fun k_ => P0_ k_)) hg (kt_ HK) (fun k_ e_ => (HO_0.out.1 k_ e_))); replace HO_0 := Aside0.mk hp_; clear hg hw hp_))
    go_roundg k1
    case measure => have := HK1.out; omega
    case rel => exact ⟨(y601), (wrap64 (x1_1 + 1)), (wrap64 (x5_1 + 1)), e1_, e1_, H', ⟨by have := HK1.out; omega⟩, ⟨kr_ HO_0.out⟩, ⟨kt_ HK⟩, ⟨bw_ HB⟩⟩
   ·replace H := so2_ H; obtain ⟨rfl, rfl⟩ := H
    obtain ⟨Ao9, co9, eo9⟩ := Kd.R_slice HO_0.out
    subst eo9
    go_wp2
    go_ret
    exact ⟨e2_, kr_ HO_0.out, bw_ HB, kt_ HK⟩
end Go.Proofs.YtnlndmoecljicaaGreat.Q
end
section
namespace Go.Proofs.YtnlndmoecljicaaGreat.Q
open Go.RowKit Go.Proofs.YtnlndmoecljicaaGreat.B Go.Proofs.YtnlndmoecljicaaGreatW.PrintWords
set_option linter.unusedVariables false
set_option linter.unusedSimpArgs false
theorem nextB {i n : Nat} (h : i < n) (hn : n ≤ 9223372036854775807) : wrap64 ((i : Int) + 1) = ((i + 1 : Nat) : Int) := by
 rw [w64 (by omega) (by omega)]
 omega
theorem eqByteS_ev (l : List Int) (hl : l.length ≤ 9223372036854775807) : Ev (fun k => laws_eqByteS.f k l l) true := by
 have main : ∀ (d i : Nat), i + d = l.length → Ev (fun k => laws_eqByteS.l0 k l l (i : Int)) true := by
  intro d
  induction d with
  | zero =>
   intro i hi
   refine Ev.step (f := fun _ => some true) (fun k => ?_) (Ev.now _)
   simp only [laws_eqByteS.l0]
   rw [if_neg (by omega)]
  | succ d ih =>
   intro i hi
   refine Ev.step (fun k => ?_) (ih (i + 1) (by omega))
   simp only [laws_eqByteS.l0]
   rw [if_pos (by omega), if_pos (by omega), if_pos (by omega), if_pos trivial, nextB (show i < l.length by omega) hl]
 refine Ev.congr (fun k => ?_) (main l.length 0 (by omega))
 unfold laws_eqByteS.f
 rw [if_pos rfl]
 rfl
def markB (a : Int) (n : Nat) : List Int := (List.range n).map fun (i : Nat) => (a + (i : Int)) % 256
theorem markB_succ (a : Int) (n : Nat) : markB a (n + 1) = markB a n ++ [(a + (n : Int)) % 256] := by
 unfold markB
 rw [List.range_succ, List.map_append]
 rfl
theorem markByteS_ev (l : List Int) (a : Int) (h0 : 0 ≤ a) (h1 : a + l.length ≤ 4611686018427387904) : Ev (fun k => laws_markByteS.f k l a) (a + (l.length : Int), markB a l.length) := by
 have main : ∀ (d i : Nat) (acc : List Int), i + d = l.length → acc.length = l.length → acc.take i = markB a i → Ev (fun k => laws_markByteS.l0 k acc (a + (i : Int)) (i : Int)) (a + (l.length : Int), markB a l.length) := by
  intro d
  induction d with
  | zero =>
   intro i acc hi ha ht
   have hil : i = l.length := by omega
   subst hil
   rw [List.take_of_length_le (by omega)] at ht
   subst ht
   refine Ev.step (f := fun _ => some (a + (l.length : Int), markB a l.length)) (fun k => ?_) (Ev.now _)
   simp only [laws_markByteS.l0]
   rw [if_neg (by omega)]
  | succ d ih =>
   intro i acc hi ha ht
   refine Ev.step (fun k => ?_) (ih (i + 1) (acc.set i ((a + (i : Int)) % 256)) (by omega) (by simp [ha]) ?_)
   ·simp only [laws_markByteS.l0]
    rw [if_pos (by omega), if_pos (by omega), nextB (show i < l.length by omega) (by omega), w64 (x := a + (i : Int) + 1) (by omega) (by omega)]
    have e : a + (i : Int) + 1 = a + ((i + 1 : Nat) : Int) := by omega
    rw [e]
    rfl
   ·rw [set_take _ (by omega), ht, markB_succ]
 refine Ev.congr (fun k => ?_) (main l.length 0 l (by omega) rfl (by simp [markB]))
 unfold laws_markByteS.f
 congr 1
 omega
end Go.Proofs.YtnlndmoecljicaaGreat.Q
end
section
namespace Go.Proofs.YtnlndmoecljicaaGreat.Q
open Go.RowKit Go.Proofs.YtnlndmoecljicaaGreatW.PrintWords Go.Proofs.YtnlndmoecljicaaGreatW.PrintLast Go.Proofs.YtnlndmoecljicaaGreatW.PrintMore
attribute [local go_sem] max2_int min2_int max_two min_two max_three min_three max_four min_four   -- for this text's walks alone
set_option linter.unusedVariables false
set_option linter.unusedSimpArgs false
def laws_eqStore.f (k : Nat) (l0_0 : List ByteArray) (a0_1 : Int) (a0_2 : ByteArray) (l0_3 : List Int) (a0_4 : Int) (l1_0 : List ByteArray) (a1_1 : Int) (a1_2 : ByteArray) (l1_3 : List Int) (a1_4 : Int) : Option (Bool) := (laws_eqLog.f k l0_0 a0_1 a0_2 l1_0 a1_1 a1_2).bind fun t603 => (if t603 = true then ((laws_eqByteS.f k l0_3 l1_3).bind fun t604 => (if t604 = true then (if a0_4 = a1_4 then (some true) else (none)) else (none))) else (none))
set_option maxHeartbeats 8000000 in
set_option maxRecDepth 100000 in
theorem laws_eqStore.calls (k : Nat) (A0_0 : Option Addr) (c0_0 : Nat) (l0_0 : List ByteArray) (a0_1 : Int) (a0_2 : ByteArray) (A0_3 : Option Addr) (c0_3 : Nat) (l0_3 : List Int) (a0_4 : Int) (A1_0 : Option Addr) (c1_0 : Nat) (l1_0 : List ByteArray) (a1_1 : Int) (a1_2 : ByteArray) (A1_3 : Option Addr) (c1_3 : Nat) (l1_3 : List Int) (a1_4 : Int) (r : Bool) (w : World) (hr0_0 : Kd.C Kd.string w A0_0 l0_0.length l0_0) (hc0_0 : l0_0.length ≤ c0_0) (hr0_3 : Kd.C (Kd.int .u8) w A0_3 l0_3.length l0_3) (hc0_3 : l0_3.length ≤ c0_3) (hr1_0 : Kd.C Kd.string w A1_0 l1_0.length l1_0) (hc1_0 : l1_0.length ≤ c1_0) (hr1_3 : Kd.C (Kd.int .u8) w A1_3 l1_3.length l1_3) (hc1_3 : l1_3.length ≤ c1_3) (h : laws_eqStore.f k l0_0 a0_1 a0_2 l0_3 a0_4 l1_0 a1_1 a1_2 l1_3 a1_4 = some r) :
  Calls Tryz.prog 45 #[.agg #[.slice A0_0 l0_0.length c0_0, .int .i64 a0_1, .string a0_2, .slice A0_3 l0_3.length c0_3, .int .i64 a0_4], .agg #[.slice A1_0 l1_0.length c1_0, .int .i64 a1_1, .string a1_2, .slice A1_3 l1_3.length c1_3, .int .i64 a1_4]] w fun e w' => e = .returned (.bool r) ∧ Below w.heap.size w w' := by
 have hu41 := Tryz.underlying41
 have hu39 := Tryz.underlying39
 have HR0_0 := Aside0.mk hr0_0
 have HC0_0 := Aside0.mk hc0_0
 clear hr0_0 hc0_0
 have HR0_3 := Aside0.mk hr0_3
 have HC0_3 := Aside0.mk hc0_3
 clear hr0_3 hc0_3
 have HR1_0 := Aside0.mk hr1_0
 have HC1_0 := Aside0.mk hc1_0
 clear hr1_0 hc1_0
 have HR1_3 := Aside0.mk hr1_3
 have HC1_3 := Aside0.mk hc1_3
 clear hr1_3 hc1_3
 have HB := Aside0.mk (Below.refl w.heap.size w)
 have H : ((laws_eqLog.f k l0_0 a0_1 a0_2 l1_0 a1_1 a1_2).bind fun t603 => (if t603 = true then ((laws_eqByteS.f k l0_3 l1_3).bind fun t604 => (if t604 = true then (if a0_4 = a1_4 then (some true) else (none)) else (none))) else (none))) = some r := h
 clear h
 replace H := bi_ H; obtain ⟨t603, A3, H⟩ := H
 replace H := ipb_ H; obtain ⟨rfl, H⟩ := H
 replace H := bi_ H; obtain ⟨t604, A5, H⟩ := H
 replace H := ipb_ H; obtain ⟨rfl, H⟩ := H
 replace H := ip_ H; obtain ⟨c7, H⟩ := H
 have c7b0 : (a0_4 == a1_4) = true := beq_iff_eq.mpr c7
 have c7b1 : (a0_4 != a1_4) = false := bne_eq_false_iff_eq.mpr c7
 clear c7
 obtain rfl := Option.some.inj H
 go_enter Tryz.func45, Tryz.ntmps45
 go_wp2_with (first | ((with_reducible refine gd_ 2 ?_); refine bx_ 2 41 #[.slice A0_0 l0_0.length c0_0, .int .i64 a0_1, .string a0_2, .slice A0_3 l0_3.length c0_3, .int .i64 a0_4] ?_; intro gb601 hg w8 hbox hb; have BK601 := Aside0.mk hbox; have GW601 := gg_ hg HB; have GE601 := GW601; replace HB := ss_ HB hb; clear hb hbox hg) | ((with_reducible refine gd_ 3 ?_); refine bx_ 3 41 #[.slice A1_0 l1_0.length c1_0, .int .i64 a1_1, .string a1_2, .slice A1_3 l1_3.length c1_3, .int .i64 a1_4] ?_; intro gb602 hg w9 hbox hb; have BK602 := Aside0.mk hbox; have GW602 := gg_ hg HB; have GE602 := GW602; replace HB := ss_ HB hb; have NB601_602 := nla_ hg BK601; have NB602_601 := nga_ hg BK601; replace BK601 := kl_ BK601 hb; clear hb hbox hg; have hnb10 := NB601_602.out; have hnc10 := NB602_601.out; have hz11 := cz5_ BK601; have hz12 := cz5_ BK602) | ((with_reducible refine gq_ 82 9 ?_); refine gc_ 9 Tryz.func82 (laws_eqLog.calls k _ _ l0_0 a0_1 a0_2 _ _ l1_0 a1_1 a1_2 true _ (cb_ HR0_0 HB) HC0_0.out (cb_ HR1_0 HB) HC1_0.out A3.out) ?_; rintro e w13 ⟨rfl, hb⟩; refine ⟨_, rfl, ?_⟩; replace BK601 := kl_ BK601 hb; replace BK602 := kl_ BK602 hb; replace HB := ss_ HB hb; clear hb; have hz14 := cz5_ BK601; have hz15 := cz5_ BK602) | ((with_reducible refine gq_ 83 15 ?_); refine gc_ 15 Tryz.func83 (laws_eqByteS.calls k _ _ l0_3 _ _ l1_3 true _ (cb_ HR0_3 HB) HC0_3.out (cb_ HR1_3 HB) HC1_3.out A5.out) ?_; rintro e w' ⟨rfl, ⟨nd, rfl⟩⟩; refine ⟨_, rfl, ?_⟩))
 go_ret
 exact ⟨e2_, bw_ HB⟩
end Go.Proofs.YtnlndmoecljicaaGreat.Q
end
section
namespace Go.Proofs.YtnlndmoecljicaaGreat.Q
open Go.RowKit Go.Proofs.YtnlndmoecljicaaGreat.B Go.Proofs.YtnlndmoecljicaaGreatW.PrintWords
set_option linter.unusedVariables false
theorem eqStore_ev (l : List ByteArray) (n : Int) (s : ByteArray) (b : List Int) (u : Int) (hl : l.length ≤ 9223372036854775807) (hb : b.length ≤ 9223372036854775807) : Ev (fun k => laws_eqStore.f k l n s b u l n s b u) true := by
 unfold laws_eqStore.f
 exact Ev.bind (eqLog_ev l n s hl) (Ev.pos rfl (Ev.bind (eqByteS_ev b hb) (Ev.pos rfl (Ev.pos rfl (Ev.now _)))))
end Go.Proofs.YtnlndmoecljicaaGreat.Q
end
section
namespace Go.Proofs.YtnlndmoecljicaaGreat.Q
open Go.RowKit Go.Proofs.YtnlndmoecljicaaGreatW.PrintWords Go.Proofs.YtnlndmoecljicaaGreatW.PrintLast Go.Proofs.YtnlndmoecljicaaGreatW.PrintMore
attribute [local go_sem] max2_int min2_int max_two min_two max_three min_three max_four min_four   -- for this text's walks alone
set_option linter.unusedVariables false
set_option linter.unusedSimpArgs false
def laws_szByteS.f (l0 : List Int) (a1 : Int) : Option (Int) := if (wrap64 (a1 - (l0.length : Int))) < 0 then (some (-1)) else (some (wrap64 (a1 - (l0.length : Int))))
set_option maxHeartbeats 8000000 in
set_option maxRecDepth 100000 in
theorem laws_szByteS.calls (A0 : Option Addr) (c0 : Nat) (l0 : List Int) (a1 : Int) (r : Int) (w : World) (hr0 : Kd.C (Kd.int .u8) w A0 l0.length l0) (hc0 : l0.length ≤ c0) (h : laws_szByteS.f l0 a1 = some r) :
  Calls Tryz.prog 71 #[.slice A0 l0.length c0, .int .i64 a1] w fun e w' => e = .returned (.int .i64 r) ∧ Drawn0 w w' := by
 have HR0 := Aside0.mk hr0
 have HC0 := Aside0.mk hc0
 clear hr0 hc0
 have H : (if (wrap64 (a1 - (l0.length : Int))) < 0 then (some (-1)) else (some (wrap64 (a1 - (l0.length : Int))))) = some r := h
 clear h
 replace H := itd_ H; obtain ⟨c3b0, H⟩ | ⟨c3b0, H⟩ := H
 ·obtain rfl := Option.some.inj H
  go_enter Tryz.func71, Tryz.ntmps71
  go_wp2
  go_ret
  exact ⟨e1_, dw_⟩
 ·obtain rfl := Option.some.inj H
  go_enter Tryz.func71, Tryz.ntmps71
  go_wp2
  go_ret
  exact ⟨e1_, dw_⟩
def laws_toByteS.l0 : Nat → List Int → List Int → Int → Option (List Int)
 | 0, _, _, _ => none
 | k + 1, x0, x3, x4 => if x4 < (x0.length : Int) then (if 0 ≤ x4 then (if x4 < (x3.length : Int) then (laws_toByteS.l0 k x0 (x3.set (x4 : Int).toNat (rd x0 x4)) (wrap64 (x4 + 1))) else (none)) else (none)) else (some x3)
def laws_toByteS.f (k : Nat) (l0 : List Int) : Option (List Int) := if 0 ≤ (l0.length : Int) then (if ((l0.length : Int) : Int).toNat ≤ 281474976710656 then (laws_toByteS.l0 k l0 (List.replicate ((l0.length : Int) : Int).toNat 0) 0) else (none)) else (none)
set_option maxHeartbeats 8000000 in
set_option maxRecDepth 100000 in
theorem laws_toByteS.calls (k : Nat) (A0 : Option Addr) (c0 : Nat) (l0 : List Int) (r : List Int) (w : World) (hr0 : Kd.C (Kd.int .u8) w A0 l0.length l0) (hc0 : l0.length ≤ c0) (h : laws_toByteS.f k l0 = some r) :
  Calls Tryz.prog 78 #[.slice A0 l0.length c0] w fun e w' => ∃ v0_ : Value, e = .returned (v0_) ∧ Kd.R (Kd.int .u8) 5 w' w.heap.size (fun _ => True) v0_ r ∧ Below w.heap.size w w' := by
 have HR0 := Aside0.mk hr0
 have HC0 := Aside0.mk hc0
 clear hr0 hc0
 have HB := Aside0.mk (Below.refl w.heap.size w)
 have H : (if 0 ≤ (l0.length : Int) then (if ((l0.length : Int) : Int).toNat ≤ 281474976710656 then (laws_toByteS.l0 k l0 (List.replicate ((l0.length : Int) : Int).toNat 0) 0) else (none)) else (none)) = some r := h
 clear h
 replace H := ip_ H; obtain ⟨c2, H⟩ := H
 have c2b0 := eq_true c2
 have c2b1 := decide_eq_true c2
 clear c2
 replace H := ip_ H; obtain ⟨c3, H⟩ := H
 have c3b0 := eq_true c3
 have c3b1 := decide_eq_true c3
 clear c3
 obtain ⟨y601, hy601⟩ : ∃ y_ : List Int, y_ = (List.replicate ((l0.length : Int) : Int).toNat 0) := ⟨_, rfl⟩
 replace H : (laws_toByteS.l0 k l0 y601 0) = some r := yh_ hy601 H
 have Ny601 := Aside0.mk hy601
 clear hy601
 have H' := Aside0.mk H
 clear H
 go_enter Tryz.func78, Tryz.ntmps78
 go_wp2_with (first | ((with_reducible refine gd_ 7 ?_); refine Kd.R_make (Kd.int .u8) _ 5 rfl (N := 7) rfl 27 _ _ rfl (l0.length : Int) rfl rfl Tryz.underlying27 (.int .u8 0) 1 info5 rfl (by decide) (by omega) 0 (ok := fun _ => True) (okp := fun _ => True) rfl (fun _ hk => hk) trivial (of_decide_eq_true as_) (Nat.le_trans (Nat.mul_le_mul_right _ (of_decide_eq_true as_ : (l0.length : Int).toNat ≤ 281474976710656)) (by omega)) (Below.refl _ _) (Nat.le_refl _) ?_; intro v602 w4 ho5 hb hg_ hnew_; clear hg_ hnew_; (first | rw [← Ny601.out] at ho5 | (simp only [Int.reduceToNat] at ho5; rw [← Ny601.out] at ho5)); have HO603 := Aside0.mk (Kd.R_lower ho5 (sz_ HB)); replace HB := ss_ HB hb; clear hb ho5))
 go_loopg [4] k (fun kq v4 w' => ∃ (x3_1 : List Int) (x4_1 : Int), v4 = .int .i64 x4_1 ∧ Aside0 (laws_toByteS.l0 kq l0 x3_1 x4_1 = some r) ∧ Aside0 (kq ≤ k) ∧ Aside0 (Kd.R (Kd.int .u8) 5 w' w.heap.size (fun _ => True) v602 x3_1) ∧ Aside0 (Below w.heap.size w w'))
 case atStart => exact ⟨(y601), (0), e1_, H', ⟨Nat.le_refl _⟩, ⟨kr_ HO603.out⟩, ⟨bw_ HB⟩⟩
 case round =>
  clear H'
  try clear c2
  try clear c2b0
  try clear c2b1
  try clear c3
  try clear c3b0
  try clear c3b1
  obtain ⟨x3_1, x4_1, rfl, HA, HK1, HO_3, HB⟩ := hrel
  cases gk with
  | zero => exact absurd HA.out (by simp [laws_toByteS.l0])
  | succ k1 =>
   have H := HA.out
   clear HA
   simp only [laws_toByteS.l0] at H
   replace H := itd_ H; obtain ⟨c6b0, H⟩ | ⟨c6b0, H⟩ := H
   ·replace H := ipd_ H; obtain ⟨c7b0, H⟩ := H
    replace H := ipd_ H; obtain ⟨c8b0, H⟩ := H
    obtain ⟨y605, hy605⟩ : ∃ y_ : List Int, y_ = (x3_1.set (x4_1 : Int).toNat (rd l0 x4_1)) := ⟨_, rfl⟩
    replace H : (laws_toByteS.l0 k1 l0 y605 (wrap64 (x4_1 + 1))) = some r := yh_ hy605 H
    have Ny605 := Aside0.mk hy605
    clear hy605
    have H' := Aside0.mk H
    clear H
    have p604 : 0 ≤ (x4_1 : Int) := of_decide_eq_true as_
    have q604 : x4_1 < (l0.length : Int) := of_decide_eq_true as_
    obtain ⟨ad604, e604, hx604_0⟩ := Kd.at_int HR0.out x4_1 p604 q604
    cases e604
    replace hx604_0 := cw_ HB hx604_0
    replace p604 := eq_true p604
    replace q604 := eq_true q604
    have p9 : 0 ≤ (x4_1 : Int) := of_decide_eq_true as_
    have q9 : (x4_1 : Int) < ((x3_1.length : Int) : Int) := of_decide_eq_true as_
    obtain ⟨go9, co9, eo9, gb9, gl9, cl9, HG9⟩ := Kd.R_form HO_3.out (by omega)
    (first | cases eo9 | (injection eo9 with ea_ en_ ec_; (first | subst ea_ | (injection ea_ with ea_; subst ea_)); subst ec_; clear en_))
    have GB9 := Aside0.mk gb9
    have GG9 := Aside0.mk HG9
    clear gb9 gl9 HG9
    obtain ⟨hx9_0, hf9_0⟩ := Kd.R_celln 0 HO_3.out (x4_1 : Int) p9 q9
    replace p9 := eq_true p9
    replace q9 := eq_true q9
    have HP10 := Kd.R_putg HO_3.out (x4_1 : Int) (rd l0 x4_1)
    go_wp2_with (first | ((with_reducible refine gate_store (t := 5) (p := 20) rfl ?_); refine store_event (t := 5) (p := 20) (v := ?vo_w11) (w1 := (wr.setCell ⟨go9, (x4_1 : Int).toNat, none⟩ (.int .u8 (rd l0 x4_1)))) ?hg ?ho ?hn ?hr ?_; (case ho => rfl); (case hg => rfl); (case hn => rfl); (case hr => first | (go_simp; done) | (go_simp; rfl)); intro w11 hw; have hg : wr.grownBy w11 (some go9) := (by rw [hw]; exact HP10.2); have hp_ : Kd.R (Kd.int .u8) 5 w11 w.heap.size (fun _ => True) (.slice (some ⟨go9, 0, none⟩) x3_1.length co9) y605 := (by rw [hw, Ny605.out]; exact HP10.1); clear HP10; replace HO_3 := Aside0.mk hp_; replace HB := Aside0.mk ((by rw [hw]; exact below_set (HB.out) GB9.out : Below w.heap.size w w11)); clear hg hw hp_))
    go_roundg k1
    case measure => have := HK1.out; omega
    case rel => exact ⟨(y605), (wrap64 (x4_1 + 1)), e1_, H', ⟨by have := HK1.out; omega⟩, ⟨kr_ HO_3.out⟩, ⟨bw_ HB⟩⟩
   ·obtain rfl := Option.some.inj H
    go_wp2
    go_ret
    exact ⟨_, e2_, kr_ HO_3.out, bw_ HB⟩
end Go.Proofs.YtnlndmoecljicaaGreat.Q
end
section
namespace Go.Proofs.YtnlndmoecljicaaGreat.Q
open Go.RowKit Go.Proofs.YtnlndmoecljicaaGreat.B Go.Proofs.YtnlndmoecljicaaGreatW.PrintWords
set_option linter.unusedVariables false
set_option linter.unusedSimpArgs false
theorem szByteS_eq (l : List Int) (left : Int) (h0 : 0 ≤ left) (h1 : left ≤ 1048576) (hl : l.length ≤ 9223372036854775807) :
  ∃ r, laws_szByteS.f l left = some r ∧ (r < 0 ∨ 0 ≤ r ∧ r + l.length = left) := by
 unfold laws_szByteS.f
 rw [w64 (by omega) (by omega)]
 by_cases h : left - (l.length : Int) < 0
 ·exact ⟨-1, if_pos h, .inl (by omega)⟩
 ·exact ⟨_, if_neg h, .inr ⟨by omega, by omega⟩⟩
theorem toByteS_ev (l : List Int) (hl : l.length ≤ 1048576) : Ev (fun k => laws_toByteS.f k l) l := by
 have main : ∀ (d i : Nat) (acc : List Int), i + d = l.length → acc.length = l.length → acc.take i = l.take i → Ev (fun k => laws_toByteS.l0 k l acc (i : Int)) l := by
  intro d
  induction d with
  | zero =>
   intro i acc hi ha ht
   refine Ev.step (f := fun _ => some l) (fun k => ?_) (Ev.now _)
   simp only [laws_toByteS.l0]
   rw [if_neg (by omega)]
   rw [List.take_of_length_le (by omega), List.take_of_length_le (by omega)] at ht
   rw [ht]
  | succ d ih =>
   intro i acc hi ha ht
   obtain ⟨x, hx⟩ := get_some (l := l) (i := i) (by omega)
   refine Ev.step (fun k => ?_) (ih (i + 1) (acc.set i x) (by omega) (by simp [ha]) ?_)
   ·simp only [laws_toByteS.l0]
    rw [if_pos (by omega), if_pos (by omega), if_pos (by omega), rd_at hx, nextB (show i < l.length by omega) (by omega)]
    rfl
   ·rw [set_take _ (by omega), ht, take_one hx]
 refine Ev.congr (fun k => ?_) (main l.length 0 (List.replicate l.length 0) (by omega) (by simp) (by simp))
 unfold laws_toByteS.f
 rw [if_pos (by omega), if_pos (by simp; omega)]
 rfl
end Go.Proofs.YtnlndmoecljicaaGreat.Q
end
section
namespace Go.Proofs.YtnlndmoecljicaaGreat.Q
open Go.RowKit Go.Proofs.YtnlndmoecljicaaGreatW.PrintWords Go.Proofs.YtnlndmoecljicaaGreatW.PrintLast Go.Proofs.YtnlndmoecljicaaGreatW.PrintMore
attribute [local go_sem] max2_int min2_int max_two min_two max_three min_three max_four min_four   -- for this text's walks alone
set_option linter.unusedVariables false
set_option linter.unusedSimpArgs false
def laws_szStore.f (k : Nat) (l0_0 : List ByteArray) (a0_1 : Int) (a0_2 : ByteArray) (l0_3 : List Int) (a0_4 : Int) (a1 : Int) : Option (Int) := (laws_szLog.f k l0_0 a0_1 a0_2 a1).bind fun t602 => (if t602 < 0 then (some (-1)) else ((laws_szByteS.f l0_3 t602).bind fun t603 => (if t603 < 0 then (some (-1)) else (some t603))))
set_option maxHeartbeats 8000000 in
set_option maxRecDepth 100000 in
theorem laws_szStore.calls (k : Nat) (A0_0 : Option Addr) (c0_0 : Nat) (l0_0 : List ByteArray) (a0_1 : Int) (a0_2 : ByteArray) (A0_3 : Option Addr) (c0_3 : Nat) (l0_3 : List Int) (a0_4 : Int) (a1 : Int) (r : Int) (w : World) (hr0_0 : Kd.C Kd.string w A0_0 l0_0.length l0_0) (hc0_0 : l0_0.length ≤ c0_0) (hr0_3 : Kd.C (Kd.int .u8) w A0_3 l0_3.length l0_3) (hc0_3 : l0_3.length ≤ c0_3) (h : laws_szStore.f k l0_0 a0_1 a0_2 l0_3 a0_4 a1 = some r) :
  Calls Tryz.prog 37 #[.agg #[.slice A0_0 l0_0.length c0_0, .int .i64 a0_1, .string a0_2, .slice A0_3 l0_3.length c0_3, .int .i64 a0_4], .int .i64 a1] w fun e w' => e = .returned (.int .i64 r) ∧ Below w.heap.size w w' := by
 have hu29 := Tryz.underlying29
 have hu26 := Tryz.underlying26
 have HR0_0 := Aside0.mk hr0_0
 have HC0_0 := Aside0.mk hc0_0
 clear hr0_0 hc0_0
 have HR0_3 := Aside0.mk hr0_3
 have HC0_3 := Aside0.mk hc0_3
 clear hr0_3 hc0_3
 have HB := Aside0.mk (Below.refl w.heap.size w)
 have H : ((laws_szLog.f k l0_0 a0_1 a0_2 a1).bind fun t602 => (if t602 < 0 then (some (-1)) else ((laws_szByteS.f l0_3 t602).bind fun t603 => (if t603 < 0 then (some (-1)) else (some t603))))) = some r := h
 clear h
 replace H := bi_ H; obtain ⟨t602, A3, H⟩ := H
 replace H := itd_ H; obtain ⟨c4b0, H⟩ | ⟨c4b0, H⟩ := H
 ·obtain rfl := Option.some.inj H
  go_enter Tryz.func37, Tryz.ntmps37
  go_wp2_with (first | ((with_reducible refine gd_ 2 ?_); refine bx_ 2 29 #[.slice A0_0 l0_0.length c0_0, .int .i64 a0_1, .string a0_2, .slice A0_3 l0_3.length c0_3, .int .i64 a0_4] ?_; intro gb601 hg w5 hbox hb; have BK601 := Aside0.mk hbox; have GW601 := gg_ hg HB; have GE601 := GW601; replace HB := ss_ HB hb; clear hb hbox hg; have hz6 := cz5_ BK601) | ((with_reducible refine gq_ 70 8 ?_); refine gc_ 8 Tryz.func70 (laws_szLog.calls k _ _ l0_0 a0_1 a0_2 a1 t602 _ (cb_ HR0_0 HB) HC0_0.out A3.out) ?_; rintro e w7 ⟨rfl, hb⟩; refine ⟨_, rfl, ?_⟩; replace BK601 := kl_ BK601 hb; replace HB := ss_ HB hb; clear hb))
  go_ret
  exact ⟨e2_, bw_ HB⟩
 ·replace H := bi_ H; obtain ⟨t603, A8, H⟩ := H
  replace H := itd_ H; obtain ⟨c9b0, H⟩ | ⟨c9b0, H⟩ := H
  ·obtain rfl := Option.some.inj H
   go_enter Tryz.func37, Tryz.ntmps37
   go_wp2_with (first | ((with_reducible refine gd_ 2 ?_); refine bx_ 2 29 #[.slice A0_0 l0_0.length c0_0, .int .i64 a0_1, .string a0_2, .slice A0_3 l0_3.length c0_3, .int .i64 a0_4] ?_; intro gb601 hg w10 hbox hb; have BK601 := Aside0.mk hbox; have GW601 := gg_ hg HB; have GE601 := GW601; replace HB := ss_ HB hb; clear hb hbox hg; have hz11 := cz5_ BK601) | ((with_reducible refine gq_ 70 8 ?_); refine gc_ 8 Tryz.func70 (laws_szLog.calls k _ _ l0_0 a0_1 a0_2 a1 t602 _ (cb_ HR0_0 HB) HC0_0.out A3.out) ?_; rintro e w12 ⟨rfl, hb⟩; refine ⟨_, rfl, ?_⟩; replace BK601 := kl_ BK601 hb; replace HB := ss_ HB hb; clear hb; have hz13 := cz5_ BK601) | ((with_reducible refine gq_ 71 14 ?_); refine gc_ 14 Tryz.func71 (laws_szByteS.calls _ _ l0_3 t602 t603 _ (cb_ HR0_3 HB) HC0_3.out A8.out) ?_; rintro e w' ⟨rfl, ⟨nd, rfl⟩⟩; refine ⟨_, rfl, ?_⟩))
   go_ret
   exact ⟨e2_, bw_ HB⟩
  ·obtain rfl := Option.some.inj H
   go_enter Tryz.func37, Tryz.ntmps37
   go_wp2_with (first | ((with_reducible refine gd_ 2 ?_); refine bx_ 2 29 #[.slice A0_0 l0_0.length c0_0, .int .i64 a0_1, .string a0_2, .slice A0_3 l0_3.length c0_3, .int .i64 a0_4] ?_; intro gb601 hg w14 hbox hb; have BK601 := Aside0.mk hbox; have GW601 := gg_ hg HB; have GE601 := GW601; replace HB := ss_ HB hb; clear hb hbox hg; have hz15 := cz5_ BK601) | ((with_reducible refine gq_ 70 8 ?_); refine gc_ 8 Tryz.func70 (laws_szLog.calls k _ _ l0_0 a0_1 a0_2 a1 t602 _ (cb_ HR0_0 HB) HC0_0.out A3.out) ?_; rintro e w16 ⟨rfl, hb⟩; refine ⟨_, rfl, ?_⟩; replace BK601 := kl_ BK601 hb; replace HB := ss_ HB hb; clear hb; have hz17 := cz5_ BK601) | ((with_reducible refine gq_ 71 14 ?_); refine gc_ 14 Tryz.func71 (laws_szByteS.calls _ _ l0_3 t602 t603 _ (cb_ HR0_3 HB) HC0_3.out A8.out) ?_; rintro e w' ⟨rfl, ⟨nd, rfl⟩⟩; refine ⟨_, rfl, ?_⟩))
   go_ret
   exact ⟨e2_, bw_ HB⟩
def laws_toStore.f (k : Nat) (l0_0 : List ByteArray) (a0_1 : Int) (a0_2 : ByteArray) (l0_3 : List Int) (a0_4 : Int) : Option (List ByteArray × Int × ByteArray × List Int × Int) := (laws_toLog.f k l0_0 a0_1 a0_2).bind fun bt604 => ((laws_toByteS.f k l0_3).bind fun t609 => (some (bt604.1, bt604.2.1, bt604.2.2, t609, a0_4)))
set_option maxHeartbeats 8000000 in
set_option maxRecDepth 100000 in
theorem laws_toStore.calls (k : Nat) (A0_0 : Option Addr) (c0_0 : Nat) (l0_0 : List ByteArray) (a0_1 : Int) (a0_2 : ByteArray) (A0_3 : Option Addr) (c0_3 : Nat) (l0_3 : List Int) (a0_4 : Int) (r1 : List ByteArray) (r2 : Int) (r3 : ByteArray) (r4 : List Int) (r5 : Int) (w : World) (hr0_0 : Kd.C Kd.string w A0_0 l0_0.length l0_0) (hc0_0 : l0_0.length ≤ c0_0) (hr0_3 : Kd.C (Kd.int .u8) w A0_3 l0_3.length l0_3) (hc0_3 : l0_3.length ≤ c0_3) (h : laws_toStore.f k l0_0 a0_1 a0_2 l0_3 a0_4 = some (r1, r2, r3, r4, r5)) :
  Calls Tryz.prog 41 #[.agg #[.slice A0_0 l0_0.length c0_0, .int .i64 a0_1, .string a0_2, .slice A0_3 l0_3.length c0_3, .int .i64 a0_4]] w fun e w' => ∃ v0_ v3_ : Value, e = .returned (.agg #[v0_, .int .i64 r2, .string r3, v3_, .int .i64 r5]) ∧ Kd.R Kd.string 9 w' w.heap.size (fun _ => True) v0_ r1 ∧ Kd.R (Kd.int .u8) 5 w' w.heap.size (fun _ => True) v3_ r4 ∧ Below w.heap.size w w' := by
 have hu29 := Tryz.underlying29
 have hu41 := Tryz.underlying41
 have hu26 := Tryz.underlying26
 have hu39 := Tryz.underlying39
 have HR0_0 := Aside0.mk hr0_0
 have HC0_0 := Aside0.mk hc0_0
 clear hr0_0 hc0_0
 have HR0_3 := Aside0.mk hr0_3
 have HC0_3 := Aside0.mk hc0_3
 clear hr0_3 hc0_3
 have HB := Aside0.mk (Below.refl w.heap.size w)
 have H : ((laws_toLog.f k l0_0 a0_1 a0_2).bind fun bt604 => ((laws_toByteS.f k l0_3).bind fun t609 => (some (bt604.1, bt604.2.1, bt604.2.2, t609, a0_4)))) = some (r1, r2, r3, r4, r5) := h
 clear h
 replace H := bi_ H; obtain ⟨⟨t604, t607, t608⟩, A2, H⟩ := H
 dsimp only at H
 replace H := bi_ H; obtain ⟨t609, A3, H⟩ := H
 replace H := so5_ H; obtain ⟨rfl, rfl, rfl, rfl, rfl⟩ := H
 go_enter Tryz.func41, Tryz.ntmps41
 go_wp2_with (first | ((with_reducible refine gd_ 1 ?_); refine bx_ 1 29 #[.slice A0_0 l0_0.length c0_0, .int .i64 a0_1, .string a0_2, .slice A0_3 l0_3.length c0_3, .int .i64 a0_4] ?_; intro gb601 hg w4 hbox hb; have BK601 := Aside0.mk hbox; have GW601 := gg_ hg HB; have GE601 := GW601; replace HB := ss_ HB hb; clear hb hbox hg) | ((with_reducible refine gd_ 2 ?_); refine bx_ 2 41 #[.slice none 0 0, .int .i64 0, .string (⟨#[]⟩ : ByteArray), .slice none 0 0, .int .i64 0] ?_; intro gb602 hg w5 hbox hb; have BK602 := Aside0.mk hbox; have GW602 := gg_ hg HB; have GE602 := GW602; replace HB := ss_ HB hb; have NB601_602 := nla_ hg BK601; have NB602_601 := nga_ hg BK601; replace BK601 := kl_ BK601 hb; clear hb hbox hg) | ((with_reducible refine gd_ 3 ?_); refine bx_ 3 41 #[.slice none 0 0, .int .i64 0, .string (⟨#[]⟩ : ByteArray), .slice none 0 0, .int .i64 0] ?_; intro gb603 hg w6 hbox hb; have BK603 := Aside0.mk hbox; have GW603 := gg_ hg HB; have GE603 := GW603; replace HB := ss_ HB hb; have NB601_603 := nla_ hg BK601; have NB603_601 := nga_ hg BK601; replace BK601 := kl_ BK601 hb; have NB602_603 := nla_ hg BK602; have NB603_602 := nga_ hg BK602; replace BK602 := kl_ BK602 hb; clear hb hbox hg; have hnb7 := NB601_602.out; have hnc7 := NB602_601.out; have hnb8 := NB601_603.out; have hnc8 := NB603_601.out; have hz9 := cz5_ BK601) | ((with_reducible refine gq_ 77 6 ?_); refine gc_ 6 Tryz.func77 (laws_toLog.calls k _ _ l0_0 a0_1 a0_2 t604 t607 t608 _ (cb_ HR0_0 HB) HC0_0.out A2.out) ?_; rintro e w10 ⟨v605, rfl, ho0, hb⟩; refine ⟨_, rfl, ?_⟩; have HO606 := Aside0.mk (Kd.R_lower ho0 (sz_ HB)); replace BK601 := kl_ BK601 hb; replace BK602 := kl_ BK602 hb; replace BK603 := kl_ BK603 hb; replace HB := ss_ HB hb; clear hb ho0; obtain ⟨Ao11, co11, eo11⟩ := Kd.R_slice HO606.out; subst eo11; have hnb12 := NB603_602.out; have hnc12 := NB602_603.out; have hz13 := cz5_ BK603; have hz14 := cz5_ BK601) | ((with_reducible refine gq_ 78 10 ?_); refine gc_ 10 Tryz.func78 (laws_toByteS.calls k _ _ l0_3 t609 _ (Kd.C_below HR0_3.out (bw_ HB)) HC0_3.out A3.out) ?_; rintro e w15 ⟨v610, rfl, ho0, hb⟩; refine ⟨_, rfl, ?_⟩; replace HO606 := rbf_ HO606 BK603 hb; have HO611 := Aside0.mk (Kd.R_lower ho0 (sz_ HB)); replace BK601 := kp_ BK601 hb; replace BK602 := kp_ BK602 hb; replace BK603 := kp_ BK603 hb; replace HB := ss_ HB hb; clear hb ho0; obtain ⟨Ao16, co16, eo16⟩ := Kd.R_slice HO611.out; subst eo16; have hz17 := cz5_ BK603; have hz18 := cz5_ BK601; have hz19 := cz5_ BK602))
 refine bodyPost_ret (results_cell_row rfl _ _ gb602 41 #[.slice Ao11 t604.length co11, .int .i64 t607, .string t608, .slice Ao16 t609.length co16, .int .i64 a0_4] (0, 0) _ rfl (by exact kq_ BK602) Tryz.underlying41 rfl (by kernel_rfl)) rfl ?_
 exact ⟨_, _, e2_, by (with_reducible repeat (first | apply Kd.R_alloc | apply Kd.R_drewN | apply Kd.R_drew)); exact Kd.R_mono (Kd.R_far (p := ⟨gb602, 4, none⟩) (Kd.R_far (p := ⟨gb602, 3, none⟩) (Kd.R_far (p := ⟨gb602, 2, none⟩) (Kd.R_far (p := ⟨gb602, 1, none⟩) (Kd.R_far (p := ⟨gb602, 0, none⟩) (Kd.R_far (p := ⟨gb603, 4, none⟩) (Kd.R_far (p := ⟨gb603, 3, none⟩) (Kd.R_types (Kd.R_types HO606.out BK603.out (by decide)) BK602.out (by decide)) (fun _ hk => hk.1.2) (.slice Ao16 t609.length co16)) (fun _ hk => hk.1.2) (.int .i64 a0_4)) (fun _ hk => hk.2) (.slice Ao11 t604.length co11)) (fun _ hk => hk.2) (.int .i64 t607)) (fun _ hk => hk.2) (.string t608)) (fun _ hk => hk.2) (.slice Ao16 t609.length co16)) (fun _ hk => hk.2) (.int .i64 a0_4)) (fun _ hk => trivial), by (with_reducible repeat (first | apply Kd.R_alloc | apply Kd.R_drewN | apply Kd.R_drew)); exact Kd.R_mono (Kd.R_far (p := ⟨gb602, 4, none⟩) (Kd.R_far (p := ⟨gb602, 3, none⟩) (Kd.R_far (p := ⟨gb602, 2, none⟩) (Kd.R_far (p := ⟨gb602, 1, none⟩) (Kd.R_far (p := ⟨gb602, 0, none⟩) (Kd.R_far (p := ⟨gb603, 4, none⟩) (Kd.R_far (p := ⟨gb603, 3, none⟩) (Kd.R_types (Kd.R_types HO611.out BK603.out (by decide)) BK602.out (by decide)) (fun _ hk => hk.1.2) (.slice Ao16 t609.length co16)) (fun _ hk => hk.1.2) (.int .i64 a0_4)) (fun _ hk => hk.2) (.slice Ao11 t604.length co11)) (fun _ hk => hk.2) (.int .i64 t607)) (fun _ hk => hk.2) (.string t608)) (fun _ hk => hk.2) (.slice Ao16 t609.length co16)) (fun _ hk => hk.2) (.int .i64 a0_4)) (fun _ hk => trivial), bw_ HB⟩
end Go.Proofs.YtnlndmoecljicaaGreat.Q
end
section
namespace Go.Proofs.YtnlndmoecljicaaGreat.Q
open Go.RowKit Go.Proofs.YtnlndmoecljicaaGreat.B Go.Proofs.YtnlndmoecljicaaGreatW.PrintWords
set_option linter.unusedVariables false
theorem szStore_ev (l : List ByteArray) (n : Int) (s : ByteArray) (b : List Int) (u : Int) (left : Int) (h0 : 0 ≤ left) (h1 : left ≤ 1048576) (hl : l.length ≤ 9223372036854775807) (hg : ∀ x ∈ l, x.size ≤ 9223372036854775807) (hs : s.size ≤ 9223372036854775807) (hb : b.length ≤ 9223372036854775807) :
  ∃ r, Ev (fun k => laws_szStore.f k l n s b u left) r ∧ (r < 0 ∨ 0 ≤ r ∧ r + l.length + total l + s.size + b.length = left) := by
 obtain ⟨a, ha, hc⟩ := szLog_ev l n s left h0 h1 hl hg hs
 unfold laws_szStore.f
 rcases hc with hc | ⟨hc, hc1⟩
 ·exact ⟨-1, Ev.bind ha (Ev.pos hc (Ev.now _)), .inl (by omega)⟩
 ·have ht := total_nonneg l
  obtain ⟨q, hq, hd⟩ := szByteS_eq b a hc (by omega) hb
  rcases hd with hd | ⟨hd, hd1⟩
  ·exact ⟨-1, Ev.bind ha (Ev.neg (by omega) (Ev.bind (Ev.const hq) (Ev.pos hd (Ev.now _)))), .inl (by omega)⟩
  ·exact ⟨q, Ev.bind ha (Ev.neg (by omega) (Ev.bind (Ev.const hq) (Ev.neg (by omega) (Ev.now _)))), .inr ⟨hd, by omega⟩⟩
theorem toStore_ev (l : List ByteArray) (n : Int) (s : ByteArray) (b : List Int) (u : Int) (hl : l.length ≤ 1048576) (hb : b.length ≤ 1048576) : Ev (fun k => laws_toStore.f k l n s b u) (l, n, s, b, u) := by
 unfold laws_toStore.f
 exact Ev.bind (toLog_ev l n s hl) (Ev.bind (toByteS_ev b hb) (Ev.now _))
end Go.Proofs.YtnlndmoecljicaaGreat.Q
end
section
namespace Go.Proofs.YtnlndmoecljicaaGreat.Q
open Go.RowKit Go.Proofs.YtnlndmoecljicaaGreatW.PrintWords Go.Proofs.YtnlndmoecljicaaGreatW.PrintLast Go.Proofs.YtnlndmoecljicaaGreatW.PrintMore
attribute [local go_sem] max2_int min2_int max_two min_two max_three min_three max_four min_four   -- for this text's walks alone
set_option linter.unusedVariables false
set_option linter.unusedSimpArgs false
def laws_szMirror.f (k : Nat) (a0_0 : Int) (l0_1 : List ByteArray) (a0_2 : Int) (a0_3 : ByteArray) (l0_4 : List Int) (a0_5 : Int) (a0_6 : Int) (a0_7 : ByteArray) (a1 : Int) : Option (Int) := (laws_szStore.f k l0_1 a0_2 a0_3 l0_4 a0_5 a1).bind fun t602 => (if t602 < 0 then (some (-1)) else ((laws_szHead.f a0_6 a0_7 t602).bind fun t603 => (if t603 < 0 then (some (-1)) else (some t603))))
set_option maxHeartbeats 8000000 in
set_option maxRecDepth 100000 in
theorem laws_szMirror.calls (k : Nat) (a0_0 : Int) (A0_1 : Option Addr) (c0_1 : Nat) (l0_1 : List ByteArray) (a0_2 : Int) (a0_3 : ByteArray) (A0_4 : Option Addr) (c0_4 : Nat) (l0_4 : List Int) (a0_5 : Int) (a0_6 : Int) (a0_7 : ByteArray) (a1 : Int) (r : Int) (w : World) (hr0_1 : Kd.C Kd.string w A0_1 l0_1.length l0_1) (hc0_1 : l0_1.length ≤ c0_1) (hr0_4 : Kd.C (Kd.int .u8) w A0_4 l0_4.length l0_4) (hc0_4 : l0_4.length ≤ c0_4) (h : laws_szMirror.f k a0_0 l0_1 a0_2 a0_3 l0_4 a0_5 a0_6 a0_7 a1 = some r) :
  Calls Tryz.prog 9 #[.agg #[.int .i64 a0_0, .slice A0_1 l0_1.length c0_1, .int .i64 a0_2, .string a0_3, .slice A0_4 l0_4.length c0_4, .int .i64 a0_5, .int .i64 a0_6, .string a0_7], .int .i64 a1] w fun e w' => e = .returned (.int .i64 r) ∧ Below w.heap.size w w' := by
 have hu31 := Tryz.underlying31
 have hu29 := Tryz.underlying29
 have hu24 := Tryz.underlying24
 have HR0_1 := Aside0.mk hr0_1
 have HC0_1 := Aside0.mk hc0_1
 clear hr0_1 hc0_1
 have HR0_4 := Aside0.mk hr0_4
 have HC0_4 := Aside0.mk hc0_4
 clear hr0_4 hc0_4
 have HB := Aside0.mk (Below.refl w.heap.size w)
 have H : ((laws_szStore.f k l0_1 a0_2 a0_3 l0_4 a0_5 a1).bind fun t602 => (if t602 < 0 then (some (-1)) else ((laws_szHead.f a0_6 a0_7 t602).bind fun t603 => (if t603 < 0 then (some (-1)) else (some t603))))) = some r := h
 clear h
 replace H := bi_ H; obtain ⟨t602, A3, H⟩ := H
 replace H := itd_ H; obtain ⟨c4b0, H⟩ | ⟨c4b0, H⟩ := H
 ·obtain rfl := Option.some.inj H
  go_enter Tryz.func9, Tryz.ntmps9
  go_wp2_with (first | ((with_reducible refine gd_ 2 ?_); refine bx_ 2 31 #[.int .i64 a0_0, .slice A0_1 l0_1.length c0_1, .int .i64 a0_2, .string a0_3, .slice A0_4 l0_4.length c0_4, .int .i64 a0_5, .int .i64 a0_6, .string a0_7] ?_; intro gb601 hg w5 hbox hb; have BK601 := Aside0.mk hbox; have GW601 := gg_ hg HB; have GE601 := GW601; replace HB := ss_ HB hb; clear hb hbox hg; have hcz6 := cz8_ BK601) | ((with_reducible refine gq_ 37 8 ?_); refine gc_ 8 Tryz.func37 (laws_szStore.calls k _ _ l0_1 a0_2 a0_3 _ _ l0_4 a0_5 a1 t602 _ (cb_ HR0_1 HB) HC0_1.out (cb_ HR0_4 HB) HC0_4.out A3.out) ?_; rintro e w7 ⟨rfl, hb⟩; refine ⟨_, rfl, ?_⟩; replace BK601 := kl_ BK601 hb; replace HB := ss_ HB hb; clear hb))
  go_ret
  exact ⟨e2_, bw_ HB⟩
 ·replace H := bi_ H; obtain ⟨t603, A8, H⟩ := H
  replace H := itd_ H; obtain ⟨c9b0, H⟩ | ⟨c9b0, H⟩ := H
  ·obtain rfl := Option.some.inj H
   go_enter Tryz.func9, Tryz.ntmps9
   go_wp2_with (first | ((with_reducible refine gd_ 2 ?_); refine bx_ 2 31 #[.int .i64 a0_0, .slice A0_1 l0_1.length c0_1, .int .i64 a0_2, .string a0_3, .slice A0_4 l0_4.length c0_4, .int .i64 a0_5, .int .i64 a0_6, .string a0_7] ?_; intro gb601 hg w10 hbox hb; have BK601 := Aside0.mk hbox; have GW601 := gg_ hg HB; have GE601 := GW601; replace HB := ss_ HB hb; clear hb hbox hg; have hcz11 := cz8_ BK601) | ((with_reducible refine gq_ 37 8 ?_); refine gc_ 8 Tryz.func37 (laws_szStore.calls k _ _ l0_1 a0_2 a0_3 _ _ l0_4 a0_5 a1 t602 _ (cb_ HR0_1 HB) HC0_1.out (cb_ HR0_4 HB) HC0_4.out A3.out) ?_; rintro e w12 ⟨rfl, hb⟩; refine ⟨_, rfl, ?_⟩; replace BK601 := kl_ BK601 hb; replace HB := ss_ HB hb; clear hb; have hcz13 := cz8_ BK601) | ((with_reducible refine gq_ 38 14 ?_); refine gc_ 14 Tryz.func38 (laws_szHead.calls a0_6 a0_7 t602 t603 _ A8.out) ?_; rintro e w14 ⟨rfl, hb⟩; refine ⟨_, rfl, ?_⟩; replace BK601 := kl_ BK601 hb; replace HB := ss_ HB hb; clear hb))
   go_ret
   exact ⟨e2_, bw_ HB⟩
  ·obtain rfl := Option.some.inj H
   go_enter Tryz.func9, Tryz.ntmps9
   go_wp2_with (first | ((with_reducible refine gd_ 2 ?_); refine bx_ 2 31 #[.int .i64 a0_0, .slice A0_1 l0_1.length c0_1, .int .i64 a0_2, .string a0_3, .slice A0_4 l0_4.length c0_4, .int .i64 a0_5, .int .i64 a0_6, .string a0_7] ?_; intro gb601 hg w15 hbox hb; have BK601 := Aside0.mk hbox; have GW601 := gg_ hg HB; have GE601 := GW601; replace HB := ss_ HB hb; clear hb hbox hg; have hcz16 := cz8_ BK601) | ((with_reducible refine gq_ 37 8 ?_); refine gc_ 8 Tryz.func37 (laws_szStore.calls k _ _ l0_1 a0_2 a0_3 _ _ l0_4 a0_5 a1 t602 _ (cb_ HR0_1 HB) HC0_1.out (cb_ HR0_4 HB) HC0_4.out A3.out) ?_; rintro e w17 ⟨rfl, hb⟩; refine ⟨_, rfl, ?_⟩; replace BK601 := kl_ BK601 hb; replace HB := ss_ HB hb; clear hb; have hcz18 := cz8_ BK601) | ((with_reducible refine gq_ 38 14 ?_); refine gc_ 14 Tryz.func38 (laws_szHead.calls a0_6 a0_7 t602 t603 _ A8.out) ?_; rintro e w19 ⟨rfl, hb⟩; refine ⟨_, rfl, ?_⟩; replace BK601 := kl_ BK601 hb; replace HB := ss_ HB hb; clear hb))
   go_ret
   exact ⟨e2_, bw_ HB⟩
def laws_toMirror.f (k : Nat) (a0_0 : Int) (l0_1 : List ByteArray) (a0_2 : Int) (a0_3 : ByteArray) (l0_4 : List Int) (a0_5 : Int) (a0_6 : Int) (a0_7 : ByteArray) : Option (Int × List ByteArray × Int × ByteArray × List Int × Int × Int × ByteArray) := (laws_toStore.f k l0_1 a0_2 a0_3 l0_4 a0_5).bind fun bt604 => ((laws_toHead.f a0_6 a0_7).bind fun bt613 => (some (a0_0, bt604.1, bt604.2.1, bt604.2.2.1, bt604.2.2.2.1, bt604.2.2.2.2, bt613.1, bt613.2)))
set_option maxHeartbeats 8000000 in
set_option maxRecDepth 100000 in
theorem laws_toMirror.calls (k : Nat) (a0_0 : Int) (A0_1 : Option Addr) (c0_1 : Nat) (l0_1 : List ByteArray) (a0_2 : Int) (a0_3 : ByteArray) (A0_4 : Option Addr) (c0_4 : Nat) (l0_4 : List Int) (a0_5 : Int) (a0_6 : Int) (a0_7 : ByteArray) (r1 : Int) (r2 : List ByteArray) (r3 : Int) (r4 : ByteArray) (r5 : List Int) (r6 : Int) (r7 : Int) (r8 : ByteArray) (w : World) (hr0_1 : Kd.C Kd.string w A0_1 l0_1.length l0_1) (hc0_1 : l0_1.length ≤ c0_1) (hr0_4 : Kd.C (Kd.int .u8) w A0_4 l0_4.length l0_4) (hc0_4 : l0_4.length ≤ c0_4) (h : laws_toMirror.f k a0_0 l0_1 a0_2 a0_3 l0_4 a0_5 a0_6 a0_7 = some (r1, r2, r3, r4, r5, r6, r7, r8)) :
  Calls Tryz.prog 12 #[.agg #[.int .i64 a0_0, .slice A0_1 l0_1.length c0_1, .int .i64 a0_2, .string a0_3, .slice A0_4 l0_4.length c0_4, .int .i64 a0_5, .int .i64 a0_6, .string a0_7]] w fun e w' => ∃ v1_ v4_ : Value, e = .returned (.agg #[.int .i64 r1, v1_, .int .i64 r3, .string r4, v4_, .int .i64 r6, .int .i64 r7, .string r8]) ∧ Kd.R Kd.string 9 w' w.heap.size (fun _ => True) v1_ r2 ∧ Kd.R (Kd.int .u8) 5 w' w.heap.size (fun _ => True) v4_ r5 ∧ Below w.heap.size w w' := by
 have hu31 := Tryz.underlying31
 have hu43 := Tryz.underlying43
 have hu29 := Tryz.underlying29
 have hu41 := Tryz.underlying41
 have hu24 := Tryz.underlying24
 have hu37 := Tryz.underlying37
 have HR0_1 := Aside0.mk hr0_1
 have HC0_1 := Aside0.mk hc0_1
 clear hr0_1 hc0_1
 have HR0_4 := Aside0.mk hr0_4
 have HC0_4 := Aside0.mk hc0_4
 clear hr0_4 hc0_4
 have HB := Aside0.mk (Below.refl w.heap.size w)
 have H : ((laws_toStore.f k l0_1 a0_2 a0_3 l0_4 a0_5).bind fun bt604 => ((laws_toHead.f a0_6 a0_7).bind fun bt613 => (some (a0_0, bt604.1, bt604.2.1, bt604.2.2.1, bt604.2.2.2.1, bt604.2.2.2.2, bt613.1, bt613.2)))) = some (r1, r2, r3, r4, r5, r6, r7, r8) := h
 clear h
 replace H := bi_ H; obtain ⟨⟨t604, t607, t608, t609, t612⟩, A2, H⟩ := H
 dsimp only at H
 replace H := bi_ H; obtain ⟨⟨t613, t614⟩, A3, H⟩ := H
 dsimp only at H
 replace H := so8_ H; obtain ⟨rfl, rfl, rfl, rfl, rfl, rfl, rfl, rfl⟩ := H
 go_enter Tryz.func12, Tryz.ntmps12
 go_wp2_with (first | ((with_reducible refine gd_ 1 ?_); refine bx_ 1 31 #[.int .i64 a0_0, .slice A0_1 l0_1.length c0_1, .int .i64 a0_2, .string a0_3, .slice A0_4 l0_4.length c0_4, .int .i64 a0_5, .int .i64 a0_6, .string a0_7] ?_; intro gb601 hg w4 hbox hb; have BK601 := Aside0.mk hbox; have GW601 := gg_ hg HB; have GE601 := GW601; replace HB := ss_ HB hb; clear hb hbox hg) | ((with_reducible refine gd_ 2 ?_); refine bx_ 2 43 #[.int .i64 0, .slice none 0 0, .int .i64 0, .string (⟨#[]⟩ : ByteArray), .slice none 0 0, .int .i64 0, .int .i64 0, .string (⟨#[]⟩ : ByteArray)] ?_; intro gb602 hg w5 hbox hb; have BK602 := Aside0.mk hbox; have GW602 := gg_ hg HB; have GE602 := GW602; replace HB := ss_ HB hb; have NB601_602 := nla_ hg BK601; have NB602_601 := nga_ hg BK601; replace BK601 := kl_ BK601 hb; clear hb hbox hg) | ((with_reducible refine gd_ 3 ?_); refine bx_ 3 43 #[.int .i64 0, .slice none 0 0, .int .i64 0, .string (⟨#[]⟩ : ByteArray), .slice none 0 0, .int .i64 0, .int .i64 0, .string (⟨#[]⟩ : ByteArray)] ?_; intro gb603 hg w6 hbox hb; have BK603 := Aside0.mk hbox; have GW603 := gg_ hg HB; have GE603 := GW603; replace HB := ss_ HB hb; have NB601_603 := nla_ hg BK601; have NB603_601 := nga_ hg BK601; replace BK601 := kl_ BK601 hb; have NB602_603 := nla_ hg BK602; have NB603_602 := nga_ hg BK602; replace BK602 := kl_ BK602 hb; clear hb hbox hg; have hnb7 := NB601_602.out; have hnc7 := NB602_601.out; have hnb8 := NB601_603.out; have hnc8 := NB603_601.out; have hcz9 := cz8_ BK601; have hnb10 := NB603_602.out; have hnc10 := NB602_603.out; have hcz11 := cz8_ BK603) | ((with_reducible refine gq_ 41 9 ?_); refine gc_ 9 Tryz.func41 (laws_toStore.calls k _ _ l0_1 a0_2 a0_3 _ _ l0_4 a0_5 t604 t607 t608 t609 t612 _ (Kd.C_below HR0_1.out (bw_ HB)) HC0_1.out (Kd.C_below HR0_4.out (bw_ HB)) HC0_4.out A2.out) ?_; rintro e w12 ⟨v605, v610, rfl, ho0, ho1, hb⟩; refine ⟨_, rfl, ?_⟩; have HO606 := Aside0.mk (Kd.R_lower ho0 (sz_ HB)); have HO611 := Aside0.mk (Kd.R_lower ho1 (sz_ HB)); replace BK601 := kp_ BK601 hb; replace BK602 := kp_ BK602 hb; replace BK603 := kp_ BK603 hb; replace HB := ss_ HB hb; clear hb ho0 ho1; obtain ⟨Ao13, co13, eo13⟩ := Kd.R_slice HO606.out; subst eo13; have hcz14 := cz8_ BK603; obtain ⟨Ao15, co15, eo15⟩ := Kd.R_slice HO611.out; subst eo15; have hcz16 := cz8_ BK601) | ((with_reducible refine gq_ 42 13 ?_); refine gc_ 13 Tryz.func42 (laws_toHead.calls a0_6 a0_7 t613 t614 _ A3.out) ?_; rintro e w17 ⟨rfl, hb⟩; refine ⟨_, rfl, ?_⟩; replace HO606 := rbf_ HO606 BK603 hb; replace HO611 := rbf_ HO611 BK603 hb; replace BK601 := kp_ BK601 hb; replace BK602 := kp_ BK602 hb; replace BK603 := kp_ BK603 hb; replace HB := ss_ HB hb; clear hb; have hcz18 := cz8_ BK603; have hcz19 := cz8_ BK602))
 refine bodyPost_ret (results_cell_row rfl _ _ gb602 43 #[.int .i64 a0_0, .slice Ao13 t604.length co13, .int .i64 t607, .string t608, .slice Ao15 t609.length co15, .int .i64 t612, .int .i64 t613, .string t614] (0, 0) _ rfl (by exact kq_ BK602) Tryz.underlying43 rfl (by kernel_rfl)) rfl ?_
 exact ⟨_, _, e2_, by (with_reducible repeat (first | apply Kd.R_alloc | apply Kd.R_drewN | apply Kd.R_drew)); exact Kd.R_mono (Kd.R_far (p := ⟨gb602, 7, none⟩) (Kd.R_far (p := ⟨gb602, 6, none⟩) (Kd.R_far (p := ⟨gb602, 5, none⟩) (Kd.R_far (p := ⟨gb602, 4, none⟩) (Kd.R_far (p := ⟨gb602, 3, none⟩) (Kd.R_far (p := ⟨gb602, 2, none⟩) (Kd.R_far (p := ⟨gb602, 1, none⟩) (Kd.R_far (p := ⟨gb602, 0, none⟩) (Kd.R_far (p := ⟨gb603, 7, none⟩) (Kd.R_far (p := ⟨gb603, 6, none⟩) (Kd.R_types (Kd.R_types HO606.out BK603.out (by decide)) BK602.out (by decide)) (fun _ hk => hk.1.2) (.int .i64 t613)) (fun _ hk => hk.1.2) (.string t614)) (fun _ hk => hk.2) (.int .i64 a0_0)) (fun _ hk => hk.2) (.slice Ao13 t604.length co13)) (fun _ hk => hk.2) (.int .i64 t607)) (fun _ hk => hk.2) (.string t608)) (fun _ hk => hk.2) (.slice Ao15 t609.length co15)) (fun _ hk => hk.2) (.int .i64 t612)) (fun _ hk => hk.2) (.int .i64 t613)) (fun _ hk => hk.2) (.string t614)) (fun _ hk => trivial), by (with_reducible repeat (first | apply Kd.R_alloc | apply Kd.R_drewN | apply Kd.R_drew)); exact Kd.R_mono (Kd.R_far (p := ⟨gb602, 7, none⟩) (Kd.R_far (p := ⟨gb602, 6, none⟩) (Kd.R_far (p := ⟨gb602, 5, none⟩) (Kd.R_far (p := ⟨gb602, 4, none⟩) (Kd.R_far (p := ⟨gb602, 3, none⟩) (Kd.R_far (p := ⟨gb602, 2, none⟩) (Kd.R_far (p := ⟨gb602, 1, none⟩) (Kd.R_far (p := ⟨gb602, 0, none⟩) (Kd.R_far (p := ⟨gb603, 7, none⟩) (Kd.R_far (p := ⟨gb603, 6, none⟩) (Kd.R_types (Kd.R_types HO611.out BK603.out (by decide)) BK602.out (by decide)) (fun _ hk => hk.1.2) (.int .i64 t613)) (fun _ hk => hk.1.2) (.string t614)) (fun _ hk => hk.2) (.int .i64 a0_0)) (fun _ hk => hk.2) (.slice Ao13 t604.length co13)) (fun _ hk => hk.2) (.int .i64 t607)) (fun _ hk => hk.2) (.string t608)) (fun _ hk => hk.2) (.slice Ao15 t609.length co15)) (fun _ hk => hk.2) (.int .i64 t612)) (fun _ hk => hk.2) (.int .i64 t613)) (fun _ hk => hk.2) (.string t614)) (fun _ hk => trivial), bw_ HB⟩
def laws_eqMirror.f (k : Nat) (a0_0 : Int) (l0_1 : List ByteArray) (a0_2 : Int) (a0_3 : ByteArray) (l0_4 : List Int) (a0_5 : Int) (a0_6 : Int) (a0_7 : ByteArray) (a1_0 : Int) (l1_1 : List ByteArray) (a1_2 : Int) (a1_3 : ByteArray) (l1_4 : List Int) (a1_5 : Int) (a1_6 : Int) (a1_7 : ByteArray) : Option (Bool) := if a0_0 = a1_0 then ((laws_eqStore.f k l0_1 a0_2 a0_3 l0_4 a0_5 l1_1 a1_2 a1_3 l1_4 a1_5).bind fun t603 => (if t603 = true then ((laws_eqHead.f a0_6 a0_7 a1_6 a1_7).bind fun t604 => (if t604 = true then (some true) else (none))) else (none))) else (none)
set_option maxHeartbeats 8000000 in
set_option maxRecDepth 100000 in
theorem laws_eqMirror.calls (k : Nat) (a0_0 : Int) (A0_1 : Option Addr) (c0_1 : Nat) (l0_1 : List ByteArray) (a0_2 : Int) (a0_3 : ByteArray) (A0_4 : Option Addr) (c0_4 : Nat) (l0_4 : List Int) (a0_5 : Int) (a0_6 : Int) (a0_7 : ByteArray) (a1_0 : Int) (A1_1 : Option Addr) (c1_1 : Nat) (l1_1 : List ByteArray) (a1_2 : Int) (a1_3 : ByteArray) (A1_4 : Option Addr) (c1_4 : Nat) (l1_4 : List Int) (a1_5 : Int) (a1_6 : Int) (a1_7 : ByteArray) (r : Bool) (w : World) (hr0_1 : Kd.C Kd.string w A0_1 l0_1.length l0_1) (hc0_1 : l0_1.length ≤ c0_1) (hr0_4 : Kd.C (Kd.int .u8) w A0_4 l0_4.length l0_4) (hc0_4 : l0_4.length ≤ c0_4) (hr1_1 : Kd.C Kd.string w A1_1 l1_1.length l1_1) (hc1_1 : l1_1.length ≤ c1_1) (hr1_4 : Kd.C (Kd.int .u8) w A1_4 l1_4.length l1_4) (hc1_4 : l1_4.length ≤ c1_4) (h : laws_eqMirror.f k a0_0 l0_1 a0_2 a0_3 l0_4 a0_5 a0_6 a0_7 a1_0 l1_1 a1_2 a1_3 l1_4 a1_5 a1_6 a1_7 = some r) :
  Calls Tryz.prog 16 #[.agg #[.int .i64 a0_0, .slice A0_1 l0_1.length c0_1, .int .i64 a0_2, .string a0_3, .slice A0_4 l0_4.length c0_4, .int .i64 a0_5, .int .i64 a0_6, .string a0_7], .agg #[.int .i64 a1_0, .slice A1_1 l1_1.length c1_1, .int .i64 a1_2, .string a1_3, .slice A1_4 l1_4.length c1_4, .int .i64 a1_5, .int .i64 a1_6, .string a1_7]] w fun e w' => e = .returned (.bool r) ∧ Below w.heap.size w w' := by
 have hu43 := Tryz.underlying43
 have hu41 := Tryz.underlying41
 have hu37 := Tryz.underlying37
 have HR0_1 := Aside0.mk hr0_1
 have HC0_1 := Aside0.mk hc0_1
 clear hr0_1 hc0_1
 have HR0_4 := Aside0.mk hr0_4
 have HC0_4 := Aside0.mk hc0_4
 clear hr0_4 hc0_4
 have HR1_1 := Aside0.mk hr1_1
 have HC1_1 := Aside0.mk hc1_1
 clear hr1_1 hc1_1
 have HR1_4 := Aside0.mk hr1_4
 have HC1_4 := Aside0.mk hc1_4
 clear hr1_4 hc1_4
 have HB := Aside0.mk (Below.refl w.heap.size w)
 have H : (if a0_0 = a1_0 then ((laws_eqStore.f k l0_1 a0_2 a0_3 l0_4 a0_5 l1_1 a1_2 a1_3 l1_4 a1_5).bind fun t603 => (if t603 = true then ((laws_eqHead.f a0_6 a0_7 a1_6 a1_7).bind fun t604 => (if t604 = true then (some true) else (none))) else (none))) else (none)) = some r := h
 clear h
 replace H := ip_ H; obtain ⟨c3, H⟩ := H
 have c3b0 : (a0_0 == a1_0) = true := beq_iff_eq.mpr c3
 have c3b1 : (a0_0 != a1_0) = false := bne_eq_false_iff_eq.mpr c3
 clear c3
 replace H := bi_ H; obtain ⟨t603, A4, H⟩ := H
 replace H := ipb_ H; obtain ⟨rfl, H⟩ := H
 replace H := bi_ H; obtain ⟨t604, A6, H⟩ := H
 replace H := ipb_ H; obtain ⟨rfl, H⟩ := H
 obtain rfl := Option.some.inj H
 go_enter Tryz.func16, Tryz.ntmps16
 go_wp2_with (first | ((with_reducible refine gd_ 2 ?_); refine bx_ 2 43 #[.int .i64 a0_0, .slice A0_1 l0_1.length c0_1, .int .i64 a0_2, .string a0_3, .slice A0_4 l0_4.length c0_4, .int .i64 a0_5, .int .i64 a0_6, .string a0_7] ?_; intro gb601 hg w8 hbox hb; have BK601 := Aside0.mk hbox; have GW601 := gg_ hg HB; have GE601 := GW601; replace HB := ss_ HB hb; clear hb hbox hg) | ((with_reducible refine gd_ 3 ?_); refine bx_ 3 43 #[.int .i64 a1_0, .slice A1_1 l1_1.length c1_1, .int .i64 a1_2, .string a1_3, .slice A1_4 l1_4.length c1_4, .int .i64 a1_5, .int .i64 a1_6, .string a1_7] ?_; intro gb602 hg w9 hbox hb; have BK602 := Aside0.mk hbox; have GW602 := gg_ hg HB; have GE602 := GW602; replace HB := ss_ HB hb; have NB601_602 := nla_ hg BK601; have NB602_601 := nga_ hg BK601; replace BK601 := kl_ BK601 hb; clear hb hbox hg; have hnb10 := NB601_602.out; have hnc10 := NB602_601.out; have hcz11 := cz8_ BK601; have hcz12 := cz8_ BK602) | ((with_reducible refine gq_ 45 14 ?_); refine gc_ 14 Tryz.func45 (laws_eqStore.calls k _ _ l0_1 a0_2 a0_3 _ _ l0_4 a0_5 _ _ l1_1 a1_2 a1_3 _ _ l1_4 a1_5 true _ (cb_ HR0_1 HB) HC0_1.out (cb_ HR0_4 HB) HC0_4.out (cb_ HR1_1 HB) HC1_1.out (cb_ HR1_4 HB) HC1_4.out A4.out) ?_; rintro e w13 ⟨rfl, hb⟩; refine ⟨_, rfl, ?_⟩; replace BK601 := kl_ BK601 hb; replace BK602 := kl_ BK602 hb; replace HB := ss_ HB hb; clear hb; have hcz14 := cz8_ BK601; have hcz15 := cz8_ BK602) | ((with_reducible refine gq_ 46 20 ?_); refine gc_ 20 Tryz.func46 (laws_eqHead.calls a0_6 a0_7 a1_6 a1_7 true _ A6.out) ?_; rintro e w16 ⟨rfl, hb⟩; refine ⟨_, rfl, ?_⟩; replace BK601 := kl_ BK601 hb; replace BK602 := kl_ BK602 hb; replace HB := ss_ HB hb; clear hb))
 go_ret
 exact ⟨e2_, bw_ HB⟩
end Go.Proofs.YtnlndmoecljicaaGreat.Q
end
section
namespace Go.Proofs.YtnlndmoecljicaaGreat.Q
open Go.RowKit Go.Proofs.YtnlndmoecljicaaGreat.B Go.Proofs.YtnlndmoecljicaaGreatW.PrintWords
set_option linter.unusedVariables false
theorem szMirror_ev (i : Int) (l : List ByteArray) (n : Int) (s : ByteArray) (b : List Int) (u c : Int) (z : ByteArray) (left : Int) (h0 : 0 ≤ left) (h1 : left ≤ 1048576) (hl : l.length ≤ 9223372036854775807) (hg : ∀ x ∈ l, x.size ≤ 9223372036854775807) (hs : s.size ≤ 9223372036854775807) (hb : b.length ≤ 9223372036854775807) (hz : z.size ≤ 9223372036854775807) :
  ∃ r, Ev (fun k => laws_szMirror.f k i l n s b u c z left) r ∧ (r < 0 ∨ 0 ≤ r ∧ r + l.length + total l + s.size + b.length + z.size = left) := by
 obtain ⟨a, ha, hc⟩ := szStore_ev l n s b u left h0 h1 hl hg hs hb
 unfold laws_szMirror.f
 rcases hc with hc | ⟨hc, hc1⟩
 ·exact ⟨-1, Ev.bind ha (Ev.pos hc (Ev.now _)), .inl (by omega)⟩
 ·have ht := total_nonneg l
  obtain ⟨q, hq, hc2⟩ := szHead_eq c z a hc (by omega) hz
  rcases hc2 with hc2 | ⟨hc2, hc3⟩
  ·exact ⟨-1, Ev.bind ha (Ev.neg (by omega) (Ev.bind (Ev.const hq) (Ev.pos hc2 (Ev.now _)))), .inl (by omega)⟩
  ·exact ⟨q, Ev.bind ha (Ev.neg (by omega) (Ev.bind (Ev.const hq) (Ev.neg (by omega) (Ev.now _)))), .inr ⟨hc2, by omega⟩⟩
theorem toMirror_ev (i : Int) (l : List ByteArray) (n : Int) (s : ByteArray) (b : List Int) (u c : Int) (z : ByteArray) (hl : l.length ≤ 1048576) (hb : b.length ≤ 1048576) : Ev (fun k => laws_toMirror.f k i l n s b u c z) (i, l, n, s, b, u, c, z) := by
 unfold laws_toMirror.f
 exact Ev.bind (toStore_ev l n s b u hl hb) (Ev.bind (Ev.const (toHead_eq c z)) (Ev.now _))
theorem eqMirror_ev (i : Int) (l : List ByteArray) (n : Int) (s : ByteArray) (b : List Int) (u c : Int) (z : ByteArray) (hl : l.length ≤ 9223372036854775807) (hb : b.length ≤ 9223372036854775807) : Ev (fun k => laws_eqMirror.f k i l n s b u c z i l n s b u c z) true := by
 unfold laws_eqMirror.f
 exact Ev.pos rfl (Ev.bind (eqStore_ev l n s b u hl hb) (Ev.pos rfl (Ev.bind (Ev.const (eqHead_eq c z)) (Ev.pos rfl (Ev.now _)))))
end Go.Proofs.YtnlndmoecljicaaGreat.Q
end
section
namespace Go.Proofs.YtnlndmoecljicaaGreat.Q
open Go.RowKit Go.Proofs.YtnlndmoecljicaaGreatW.PrintWords Go.Proofs.YtnlndmoecljicaaGreatW.PrintLast Go.Proofs.YtnlndmoecljicaaGreatW.PrintMore
attribute [local go_sem] max2_int min2_int max_two min_two max_three min_three max_four min_four   -- for this text's walks alone
set_option linter.unusedVariables false
set_option linter.unusedSimpArgs false
def laws_markText.l0 : Nat → Int → ByteArray → Option (ByteArray)
 | 0, _, _ => none
 | k + 1, x0, x3 => if x0 > 0 then ((some (([(wrap64 (48 + (Int.tmod x0 10))) % 256] : List Int) : List Int)).bind fun y601 => (if (strOfNums y601).size + x3.size ≤ 9223372036854775807 then (laws_markText.l0 k (wrap64 (Int.tdiv x0 10)) ((strOfNums y601) ++ x3)) else (none))) else (if 1 + x3.size ≤ 9223372036854775807 then (some ((⟨#[109]⟩ : ByteArray) ++ x3)) else (none))
def laws_markText.f (k : Nat) (a0 : Int) : Option (ByteArray) := if a0 ≤ 0 then (some (⟨#[109, 48]⟩ : ByteArray)) else (laws_markText.l0 k a0 (⟨#[]⟩ : ByteArray))
set_option maxHeartbeats 8000000 in
set_option maxRecDepth 100000 in
theorem laws_markText.calls (k : Nat) (a0 : Int) (r : ByteArray) (w : World) (h : laws_markText.f k a0 = some r) :
  Calls Tryz.prog 48 #[.int .i64 a0] w fun e w' => e = .returned (.string r) ∧ Below w.heap.size w w' := by
 have HB := Aside0.mk (Below.refl w.heap.size w)
 have H : (if a0 ≤ 0 then (some (⟨#[109, 48]⟩ : ByteArray)) else (laws_markText.l0 k a0 (⟨#[]⟩ : ByteArray))) = some r := h
 clear h
 replace H := itd_ H; obtain ⟨c2b0, H⟩ | ⟨c2b0, H⟩ := H
 ·obtain rfl := Option.some.inj H
  go_enter Tryz.func48, Tryz.ntmps48
  go_wp2
  go_ret
  exact ⟨e2_, bw_ HB⟩
 ·have H' := Aside0.mk H
  clear H
  go_enter Tryz.func48, Tryz.ntmps48
  go_wp2
  go_loopg [0, 3] k (fun kq v0 v3 w' => ∃ (x0_1 : Int) (x3_1 : ByteArray), v0 = .int .i64 x0_1 ∧ v3 = .string x3_1 ∧ Aside0 (laws_markText.l0 kq x0_1 x3_1 = some r) ∧ Aside0 (kq ≤ k) ∧ Aside0 (Below w.heap.size w w'))
  case atStart => exact ⟨(a0), ((⟨#[]⟩ : ByteArray)), e1_, e1_, H', ⟨Nat.le_refl _⟩, ⟨bw_ HB⟩⟩
  case round =>
   clear H'
   try clear c2b0
   obtain ⟨x0_1, x3_1, rfl, rfl, HA, HK1, HB⟩ := hrel
   cases gk with
   | zero => exact absurd HA.out (by simp [laws_markText.l0])
   | succ k1 =>
    have H := HA.out
    clear HA
    simp only [laws_markText.l0] at H
    replace H := it_ H; obtain ⟨c3, H⟩ | ⟨c3, H⟩ := H
    ·have c3b0 : decide (0 < x0_1) = true := decide_eq_true c3
     clear c3
     obtain ⟨y601, Ny601, H⟩ := sb_ (([(wrap64 (48 + (Int.tmod x0_1 10))) % 256] : List Int)) H
     replace H := ip_ H; obtain ⟨c4, H⟩ := H
     have c4b0 := eq_true c4
     have c4b1 := decide_eq_true c4
     try have c4b2 : (9223372036854775807 < (strOfNums y601).size + x3_1.size) = False := eq_false (Nat.not_lt.2 c4)
     have H' := Aside0.mk H
     clear H
     go_wp2_with (first | ((with_reducible refine gd_ 12 ?_); refine rl_ (Kd.int .u8) 5 12 ([(wrap64 (48 + (Int.tmod x0_1 10))) % 256] : List Int) [.int .u8 ((wrap64 (48 + (Int.tmod x0_1 10))) % 256)] ?_; intro v602 w5 ho6 hb hg_ hnew_; clear hg_ hnew_; (first | rw [← Ny601.out] at ho6 | (simp only [Int.reduceToNat] at ho6; rw [← Ny601.out] at ho6)); have HO603 := Aside0.mk (Kd.R_lower ho6 (sz_ HB)); replace HB := ss_ HB hb; clear hb ho6; have hcv7 := own_string (P := Tryz.prog) Tryz.underlying27 Tryz.underlying5 Tryz.underlying9 (Kd.own_of_R HO603.out)))
     go_roundg k1
     case measure => have := HK1.out; omega
     case rel => exact ⟨(wrap64 (Int.tdiv x0_1 10)), ((strOfNums y601) ++ x3_1), e1_, e1_, H', ⟨by have := HK1.out; omega⟩, ⟨bw_ HB⟩⟩
    ·have c3b0 : decide (0 < x0_1) = false := decide_eq_false c3
     clear c3
     replace H := ip_ H; obtain ⟨c8, H⟩ := H
     have c8b0 := eq_true c8
     have c8b1 := decide_eq_true c8
     try have c8b2 : (9223372036854775807 < 1 + x3_1.size) = False := eq_false (Nat.not_lt.2 c8)
     obtain rfl := Option.some.inj H
     go_wp2
     go_ret
     exact ⟨e2_, bw_ HB⟩
def laws_markStringS.l0 : Nat → List ByteArray → Int → Int → Option (Int × List ByteArray)
 | 0, _, _, _ => none
 | k + 1, x0, x1, x5 => if x5 < (x0.length : Int) then ((laws_markText.f k x1).bind fun t601 => (if 0 ≤ x5 then (laws_markStringS.l0 k (x0.set (x5 : Int).toNat t601) (wrap64 (x1 + 1)) (wrap64 (x5 + 1))) else (none))) else (some (x1, x0))
def laws_markStringS.f (k : Nat) (l0 : List ByteArray) (a1 : Int) : Option (Int × List ByteArray) := laws_markStringS.l0 k l0 a1 0
set_option maxHeartbeats 8000000 in
set_option maxRecDepth 100000 in
theorem laws_markStringS.calls (k : Nat) (P0_ : Nat → Prop) (u9000_ : Value) (l0 : List ByteArray) (a1 : Int) (r1 : Int) (r2 : List ByteArray) (w0 w : World) (hB : Below w0.heap.size w0 w) (ho0 : Kd.R Kd.string 9 w w0.heap.size P0_ u9000_ l0) (h : laws_markStringS.f k l0 a1 = some (r1, r2)) :
  Calls Tryz.prog 49 #[u9000_, .int .i64 a1] w fun e w' => e = .returned (.int .i64 r1) ∧ Kd.R Kd.string 9 w' w0.heap.size (fun k_ => (P0_ k_ ∨ w.heap.size ≤ k_)) u9000_ r2 ∧ Below w0.heap.size w0 w' ∧ Kept w w' (fun k_ => P0_ k_) := by
 have HO0 := Aside0.mk (show Kd.R Kd.string 9 w w0.heap.size (fun k_ => (P0_ k_ ∨ w.heap.size ≤ k_)) u9000_ l0 from Kd.R_mono ho0 (fun k_ hk => (.inl hk)))
 have HK := Aside0.mk (Kept.refl w (fun k_ => P0_ k_))
 have HW0 := Aside0.mk hB.size
 have HB := Aside0.mk hB
 clear hB
 have H : (laws_markStringS.l0 k l0 a1 0) = some (r1, r2) := h
 clear h
 have H' := Aside0.mk H
 clear H
 go_enter Tryz.func49, Tryz.ntmps49
 go_wp2
 go_loopg [1, 5] k (fun kq v1 v5 w' => ∃ (x0_1 : List ByteArray) (x1_1 : Int) (x5_1 : Int), v1 = .int .i64 x1_1 ∧ v5 = .int .i64 x5_1 ∧ Aside0 (laws_markStringS.l0 kq x0_1 x1_1 x5_1 = some (r1, r2)) ∧ Aside0 (kq ≤ k) ∧ Aside0 (Kd.R Kd.string 9 w' w0.heap.size (fun k_ => (P0_ k_ ∨ w.heap.size ≤ k_)) u9000_ x0_1) ∧ Aside0 (Kept w w' (fun k_ => P0_ k_)) ∧ Aside0 (Below w0.heap.size w0 w'))
 case atStart => exact ⟨(l0), (a1), (0), e1_, e1_, H', ⟨Nat.le_refl _⟩, ⟨kr_ HO0.out⟩, ⟨kt_ HK⟩, ⟨bw_ HB⟩⟩
 case round =>
  clear H'
  obtain ⟨x0_1, x1_1, x5_1, rfl, rfl, HA, HK1, HO_0, HK, HB⟩ := hrel
  cases gk with
  | zero => exact absurd HA.out (by simp [laws_markStringS.l0])
  | succ k1 =>
   have H := HA.out
   clear HA
   simp only [laws_markStringS.l0] at H
   replace H := itd_ H; obtain ⟨c3b0, H⟩ | ⟨c3b0, H⟩ := H
   ·replace H := bi_ H; obtain ⟨t601, A4, H⟩ := H
    replace H := ipd_ H; obtain ⟨c5b0, H⟩ := H
    obtain ⟨y602, hy602⟩ : ∃ y_ : List ByteArray, y_ = (x0_1.set (x5_1 : Int).toNat t601) := ⟨_, rfl⟩
    replace H : (laws_markStringS.l0 k1 y602 (wrap64 (x1_1 + 1)) (wrap64 (x5_1 + 1))) = some (r1, r2) := yh_ hy602 H
    have Ny602 := Aside0.mk hy602
    clear hy602
    have H' := Aside0.mk H
    clear H
    obtain ⟨Ao7, co7, eo7⟩ := Kd.R_slice HO_0.out
    subst eo7
    go_wp2_with (first | ((with_reducible refine gq_ 48 15 ?_); refine gc_ 15 Tryz.func48 (laws_markText.calls k1 x1_1 t601 _ A4.out) ?_; rintro e w8 ⟨rfl, hb⟩; refine ⟨_, rfl, ?_⟩; replace HO_0 := rb_ HO_0 hb; replace HK := Aside0.mk (Kept.below (S := (fun k_ => P0_ k_)) (kt_ HK) hb); replace HB := ss_ HB hb; clear hb; have p6 : 0 ≤ (x5_1 : Int) := of_decide_eq_true as_; have q6 : (x5_1 : Int) < ((x0_1.length : Int) : Int) := of_decide_eq_true as_; obtain ⟨go6, co6, eo6, gb6, gl6, cl6, HG6⟩ := Kd.R_form HO_0.out (by omega); (first | cases eo6 | (injection eo6 with ea_ en_ ec_; (first | subst ea_ | (injection ea_ with ea_; subst ea_)); subst ec_; clear en_)); have GB6 := Aside0.mk gb6; have GG6 := Aside0.mk HG6; clear gb6 gl6 HG6; have HMgo6 := Aside0.mk (show (P0_ go6 ∨ w.heap.size ≤ go6) from (HO_0.out.1 _ rfl)); obtain ⟨hx6_0, hf6_0⟩ := Kd.R_celln (⟨#[]⟩ : ByteArray) HO_0.out (x5_1 : Int) p6 q6; replace p6 := eq_true p6; replace q6 := eq_true q6; obtain ⟨hy9_, hz9_⟩ := Kd.R_celln (⟨#[]⟩ : ByteArray) HO_0.out (x5_1 : Int) (of_decide_eq_true as_) (of_decide_eq_true as_); have HP9 := Kd.R_putg HO_0.out (x5_1 : Int) t601) | ((with_reducible refine gate_store (t := 9) (p := 16) rfl ?_); refine store_event (t := 9) (p := 16) (v := ?vo_w10) (w1 := (w8.setCell ⟨go6, (x5_1 : Int).toNat, none⟩ (.string t601))) ?hg ?ho ?hn ?hr ?_; (case ho => rfl); (case hg => rfl); (case hn => rfl); (case hr => first | (go_simp; done) | (go_simp; rfl)); intro w10 hw; have hg : w8.grownBy w10 (some go6) := (by rw [hw]; exact HP9.2); have hp_ : Kd.R Kd.string 9 w10 w0.heap.size (fun k_ => (P0_ k_ ∨ w.heap.size ≤ k_)) (.slice (some ⟨go6, 0, none⟩) x0_1.length co7) y602 := (by rw [hw, Ny602.out]; exact HP9.1); clear HP9; replace HB := Aside0.mk ((by rw [hw]; exact below_set (HB.out) GB6.out : Below w0.heap.size w0 w10)); replace HK := Aside0.mk (Kept.of_grown (S := (fun k_ => P0_ k_)) hg (kt_ HK) (fun k_ e_ => (HO_0.out.1 k_ e_))); replace HO_0 := Aside0.mk hp_; clear hg hw hp_))
    go_roundg k1
    case measure => have := HK1.out; omega
    case rel => exact ⟨(y602), (wrap64 (x1_1 + 1)), (wrap64 (x5_1 + 1)), e1_, e1_, H', ⟨by have := HK1.out; omega⟩, ⟨kr_ HO_0.out⟩, ⟨kt_ HK⟩, ⟨bw_ HB⟩⟩
   ·replace H := so2_ H; obtain ⟨rfl, rfl⟩ := H
    obtain ⟨Ao11, co11, eo11⟩ := Kd.R_slice HO_0.out
    subst eo11
    go_wp2
    go_ret
    exact ⟨e2_, kr_ HO_0.out, bw_ HB, kt_ HK⟩
end Go.Proofs.YtnlndmoecljicaaGreat.Q
end
section
namespace Go.Proofs.YtnlndmoecljicaaGreat.Q
open Go.RowKit Go.Proofs.YtnlndmoecljicaaGreat.B Go.Proofs.YtnlndmoecljicaaGreatW.PrintWords
set_option linter.unusedVariables false
set_option linter.unusedSimpArgs false
theorem nums_one (x : Int) : (strOfNums [x]).size = 1 := by simp [strOfNums, ByteArray.size]
theorem markText_l0 : ∀ (n : Nat) (x : Int) (acc : ByteArray), 0 ≤ x → x ≤ n → (acc.size : Int) + x ≤ 4611686018427387910 → ∃ t, Ev (fun k => laws_markText.l0 k x acc) t := by
 intro n
 induction n with
 | zero =>
  intro x acc h0 h1 h2
  refine ⟨_, Ev.step (f := fun _ => some ((⟨#[109]⟩ : ByteArray) ++ acc)) (fun k => ?_) (Ev.now _)⟩
  simp only [laws_markText.l0]
  rw [if_neg (by omega), if_pos (by omega)]
 | succ n ih =>
  intro x acc h0 h1 h2
  by_cases hx : x > 0
  ·have hd : Int.tdiv x 10 = x / 10 := Int.tdiv_eq_ediv_of_nonneg h0
   have hsz : ((strOfNums [(wrap64 (48 + (Int.tmod x 10))) % 256]) ++ acc).size = 1 + acc.size := by rw [ByteArray.size_append, nums_one]
   obtain ⟨t, ht⟩ := ih (x / 10) ((strOfNums [(wrap64 (48 + (Int.tmod x 10))) % 256]) ++ acc) (by omega) (by omega) (by rw [hsz]; omega)
   refine ⟨t, Ev.step (fun k => ?_) ht⟩
   simp only [laws_markText.l0]
   rw [if_pos hx]
   simp only [Option.bind_some]
   rw [nums_one, if_pos (by omega), hd, w64 (by omega) (by omega)]
  ·refine ⟨_, Ev.step (f := fun _ => some ((⟨#[109]⟩ : ByteArray) ++ acc)) (fun k => ?_) (Ev.now _)⟩
   simp only [laws_markText.l0]
   rw [if_neg hx, if_pos (by omega)]
theorem markText_ev (a : Int) (h : a ≤ 4611686018427387904) : ∃ t, Ev (fun k => laws_markText.f k a) t := by
 unfold laws_markText.f
 by_cases h0 : a ≤ 0
 ·exact ⟨_, Ev.pos h0 (Ev.now _)⟩
 ·obtain ⟨t, ht⟩ := markText_l0 a.toNat a ⟨#[]⟩ (by omega) (by omega) (by rw [show (ByteArray.mk #[]).size = 0 from rfl]; omega)
  exact ⟨t, Ev.neg h0 ht⟩
def Marked (M : List ByteArray) (a : Int) : Prop := ∀ i, i < M.length → ∃ x, M[i]? = some x ∧ Ev (fun k => laws_markText.f k (a + (i : Int))) x
theorem markStringS_ev (l : List ByteArray) (a : Int) (h0 : 0 ≤ a) (h1 : a + l.length ≤ 4611686018427387904) : ∃ M, Ev (fun k => laws_markStringS.f k l a) (a + (l.length : Int), M) ∧ M.length = l.length ∧ Marked M a := by
 have main : ∀ (d i : Nat) (acc : List ByteArray), i + d = l.length → acc.length = l.length → (∀ j, j < i → ∃ x, acc[j]? = some x ∧ Ev (fun k => laws_markText.f k (a + (j : Int))) x) → ∃ M, Ev (fun k => laws_markStringS.l0 k acc (a + (i : Int)) (i : Int)) (a + (l.length : Int), M) ∧ M.length = l.length ∧ Marked M a := by
  intro d
  induction d with
  | zero =>
   intro i acc hi ha ht
   have hil : i = l.length := by omega
   subst hil
   refine ⟨acc, Ev.step (f := fun _ => some (a + (l.length : Int), acc)) (fun k => ?_) (Ev.now _), ha, fun j hj => ht j (by omega)⟩
   simp only [laws_markStringS.l0]
   rw [if_neg (by omega)]
  | succ d ih =>
   intro i acc hi ha ht
   obtain ⟨x, hx⟩ := markText_ev (a + (i : Int)) (by omega)
   obtain ⟨M, hM, hl, hm⟩ := ih (i + 1) (acc.set i x) (by omega) (by simp [ha]) (fun j hj => by
    by_cases he : j = i
    ·subst he
     exact ⟨x, by rw [List.getElem?_set_self (by omega)], hx⟩
    ·rw [List.getElem?_set_ne (by omega)]
     exact ht j (by omega))
   refine ⟨M, ?_, hl, hm⟩
   refine Ev.step (fun k => by simp only [laws_markStringS.l0]; rfl) ?_
   refine Ev.pos (by omega) (Ev.bind hx (Ev.pos (by omega) ?_))
   rw [nextS (show i < l.length by omega) (by omega), w64 (x := a + (i : Int) + 1) (by omega) (by omega)]
   have e : a + (i : Int) + 1 = a + ((i + 1 : Nat) : Int) := by omega
   rw [e]
   exact hM
 obtain ⟨M, hM, hl, hm⟩ := main l.length 0 l (by omega) rfl (fun j hj => by omega)
 refine ⟨M, Ev.congr (fun k => ?_) hM, hl, hm⟩
 unfold laws_markStringS.f
 congr 1
 omega
end Go.Proofs.YtnlndmoecljicaaGreat.Q
end
section
namespace Go.Proofs.YtnlndmoecljicaaGreat.Q
open Go.RowKit Go.Proofs.YtnlndmoecljicaaGreatW.PrintWords Go.Proofs.YtnlndmoecljicaaGreatW.PrintLast Go.Proofs.YtnlndmoecljicaaGreatW.PrintMore
attribute [local go_sem] max2_int min2_int max_two min_two max_three min_three max_four min_four   -- for this text's walks alone
set_option linter.unusedVariables false
set_option linter.unusedSimpArgs false
def laws_markLog.f (k : Nat) (l0_0 : List ByteArray) (a0_1 : Int) (a0_2 : ByteArray) (a1 : Int) : Option (Int × List ByteArray) := (laws_markStringS.f k l0_0 a1).bind fun bt602 => (some (bt602.1, bt602.2))
set_option maxHeartbeats 8000000 in
set_option maxRecDepth 100000 in
theorem laws_markLog.calls (k : Nat) (P0_0_ : Nat → Prop) (u9000_ : Value) (l0_0 : List ByteArray) (a0_1 : Int) (a0_2 : ByteArray) (a1 : Int) (r1 : Int) (r2 : List ByteArray) (w0 w : World) (hB : Below w0.heap.size w0 w) (ho0_0 : Kd.R Kd.string 9 w w0.heap.size P0_0_ u9000_ l0_0) (h : laws_markLog.f k l0_0 a0_1 a0_2 a1 = some (r1, r2)) :
  Calls Tryz.prog 84 #[.agg #[u9000_, .int .i64 a0_1, .string a0_2], .int .i64 a1] w fun e w' => e = .returned (.int .i64 r1) ∧ Kd.R Kd.string 9 w' w0.heap.size (fun k_ => (P0_0_ k_ ∨ w.heap.size ≤ k_)) u9000_ r2 ∧ Below w0.heap.size w0 w' ∧ Kept w w' (fun k_ => P0_0_ k_) := by
 have hu39 := Tryz.underlying39
 have HO0_0 := Aside0.mk (show Kd.R Kd.string 9 w w0.heap.size (fun k_ => (P0_0_ k_ ∨ w.heap.size ≤ k_)) u9000_ l0_0 from Kd.R_mono ho0_0 (fun k_ hk => (.inl hk)))
 have HK := Aside0.mk (Kept.refl w (fun k_ => P0_0_ k_))
 have HW0 := Aside0.mk hB.size
 have HB := Aside0.mk hB
 clear hB
 have H : ((laws_markStringS.f k l0_0 a1).bind fun bt602 => (some (bt602.1, bt602.2))) = some (r1, r2) := h
 clear h
 replace H := bi_ H; obtain ⟨⟨t602, t603⟩, A3, H⟩ := H
 dsimp only at H
 replace H := so2_ H; obtain ⟨rfl, rfl⟩ := H
 obtain ⟨Ao4, co4, eo4⟩ := Kd.R_slice HO0_0.out
 subst eo4
 go_enter Tryz.func84, Tryz.ntmps84
 go_wp2_with (first | ((with_reducible refine gd_ 2 ?_); refine bx_ 2 39 #[.slice Ao4 l0_0.length co4, .int .i64 a0_1, .string a0_2] ?_; intro gb601 hg w5 hbox hb; replace HO0_0 := rb_ HO0_0 hb; have BK601 := Aside0.mk hbox; have GW601 := Aside0.mk ((by rw [hg]; exact (by first | exact HK.out.1 | exact (show Kept w _ (fun k_ => P0_0_ k_) from kt_ HK).1) : w.heap.size ≤ gb601)); replace HK := Aside0.mk (Kept.below (S := (fun k_ => P0_0_ k_)) (kt_ HK) hb); have GE601 := gg_ hg HB; replace HB := ss_ HB hb; clear hb hbox hg; have hz6 := cz3_ BK601) | ((with_reducible refine gq_ 49 8 ?_); refine gc_ 8 Tryz.func49 (laws_markStringS.calls k (fun k_ => some k_ = (.slice Ao4 l0_0.length co4 : Value).ownBlock) (.slice Ao4 l0_0.length co4) l0_0 a1 t602 t603 w0 _ (bw_ HB) (Kd.R_tight rfl HO0_0.out) A3.out) ?_; rintro e w7 ⟨rfl, hy0, hb, hkp⟩; refine ⟨_, rfl, ?_⟩; replace BK601 := Aside0.mk (blk_kept (kb_ BK601.out) hkp (fun hs_ => (fun e_ => (Kd.R_ne HO0_0.out BK601.out (by decide)) e_) hs_)); replace HK := Aside0.mk (Kept.then_ (S := (fun k_ => P0_0_ k_)) (by repeat (first | (with_reducible first | exact HK.out | apply Kept.alloc | apply Kept.drewN | apply Kept.drew | refine Kept.setCell ?_ (.inr GW601.out) _) | exact HK.out)) hkp (fun k_ hs_ => (fun e_ => (HO0_0.out.1 k_ e_.symm)) hs_)); replace HO0_0 := Aside0.mk (Kd.R_reok rfl hy0 (fun k_ e_ => HO0_0.out.1 k_ e_)); replace HB := Aside0.mk hb; clear hb hkp hy0))
 go_ret
 exact ⟨e2_, kr_ HO0_0.out, bw_ HB, by repeat (first | (with_reducible first | exact HK.out | apply Kept.alloc | apply Kept.drewN | apply Kept.drew | refine Kept.setCell ?_ (.inr GW601.out) _) | exact HK.out)⟩
end Go.Proofs.YtnlndmoecljicaaGreat.Q
end
section
namespace Go.Proofs.YtnlndmoecljicaaGreat.Q
open Go.RowKit Go.Proofs.YtnlndmoecljicaaGreat.B Go.Proofs.YtnlndmoecljicaaGreatW.PrintWords
set_option linter.unusedVariables false
theorem markLog_ev (l : List ByteArray) (n : Int) (s : ByteArray) (a : Int) (h0 : 0 ≤ a) (h1 : a + l.length ≤ 4611686018427387904) : ∃ M, Ev (fun k => laws_markLog.f k l n s a) (a + (l.length : Int), M) ∧ M.length = l.length ∧ Marked M a := by
 obtain ⟨M, hM, hl, hm⟩ := markStringS_ev l a h0 h1
 refine ⟨M, ?_, hl, hm⟩
 unfold laws_markLog.f
 exact Ev.bind hM (Ev.now _)
end Go.Proofs.YtnlndmoecljicaaGreat.Q
end
section
namespace Go.Proofs.YtnlndmoecljicaaGreat.Q
open Go.RowKit Go.Proofs.YtnlndmoecljicaaGreatW.PrintWords Go.Proofs.YtnlndmoecljicaaGreatW.PrintLast Go.Proofs.YtnlndmoecljicaaGreatW.PrintMore
attribute [local go_sem] max2_int min2_int max_two min_two max_three min_three max_four min_four   -- for this text's walks alone
set_option linter.unusedVariables false
set_option linter.unusedSimpArgs false
def laws_markStore.f (k : Nat) (l0_0 : List ByteArray) (a0_1 : Int) (a0_2 : ByteArray) (l0_3 : List Int) (a0_4 : Int) (a1 : Int) : Option (Int × List ByteArray × List Int) := (laws_markLog.f k l0_0 a0_1 a0_2 a1).bind fun bt602 => ((laws_markByteS.f k l0_3 bt602.1).bind fun bt604 => (some (bt604.1, bt602.2, bt604.2)))
set_option maxHeartbeats 8000000 in
set_option maxRecDepth 100000 in
theorem laws_markStore.calls (k : Nat) (P0_0_ : Nat → Prop) (u9000_ : Value) (l0_0 : List ByteArray) (a0_1 : Int) (a0_2 : ByteArray) (P0_3_ : Nat → Prop) (u9001_ : Value) (l0_3 : List Int) (a0_4 : Int) (a1 : Int) (r1 : Int) (r2 : List ByteArray) (r3 : List Int) (w0 w : World) (hB : Below w0.heap.size w0 w) (ho0_0 : Kd.R Kd.string 9 w w0.heap.size P0_0_ u9000_ l0_0) (ho0_3 : Kd.R (Kd.int .u8) 5 w w0.heap.size P0_3_ u9001_ l0_3) (h : laws_markStore.f k l0_0 a0_1 a0_2 l0_3 a0_4 a1 = some (r1, r2, r3)) :
  Calls Tryz.prog 47 #[.agg #[u9000_, .int .i64 a0_1, .string a0_2, u9001_, .int .i64 a0_4], .int .i64 a1] w fun e w' => e = .returned (.int .i64 r1) ∧ Kd.R Kd.string 9 w' w0.heap.size (fun k_ => ((P0_0_ k_ ∨ P0_3_ k_) ∨ w.heap.size ≤ k_)) u9000_ r2 ∧ Kd.R (Kd.int .u8) 5 w' w0.heap.size (fun k_ => ((P0_0_ k_ ∨ P0_3_ k_) ∨ w.heap.size ≤ k_)) u9001_ r3 ∧ Below w0.heap.size w0 w' ∧ Kept w w' (fun k_ => P0_0_ k_ ∨ P0_3_ k_) := by
 have hu41 := Tryz.underlying41
 have hu39 := Tryz.underlying39
 have HO0_0 := Aside0.mk (show Kd.R Kd.string 9 w w0.heap.size (fun k_ => ((P0_0_ k_ ∨ P0_3_ k_) ∨ w.heap.size ≤ k_)) u9000_ l0_0 from Kd.R_mono ho0_0 (fun k_ hk => (.inl (.inl hk))))
 have HO0_3 := Aside0.mk (show Kd.R (Kd.int .u8) 5 w w0.heap.size (fun k_ => ((P0_0_ k_ ∨ P0_3_ k_) ∨ w.heap.size ≤ k_)) u9001_ l0_3 from Kd.R_mono ho0_3 (fun k_ hk => (.inl (.inr hk))))
 have HK := Aside0.mk (Kept.refl w (fun k_ => P0_0_ k_ ∨ P0_3_ k_))
 have HW0 := Aside0.mk hB.size
 have HB := Aside0.mk hB
 clear hB
 have H : ((laws_markLog.f k l0_0 a0_1 a0_2 a1).bind fun bt602 => ((laws_markByteS.f k l0_3 bt602.1).bind fun bt604 => (some (bt604.1, bt602.2, bt604.2)))) = some (r1, r2, r3) := h
 clear h
 replace H := bi_ H; obtain ⟨⟨t602, t603⟩, A3, H⟩ := H
 dsimp only at H
 replace H := bi_ H; obtain ⟨⟨t604, t605⟩, A4, H⟩ := H
 dsimp only at H
 replace H := so3_ H; obtain ⟨rfl, rfl, rfl⟩ := H
 obtain ⟨Ao5, co5, eo5⟩ := Kd.R_slice HO0_0.out
 subst eo5
 obtain ⟨Ao6, co6, eo6⟩ := Kd.R_slice HO0_3.out
 subst eo6
 go_enter Tryz.func47, Tryz.ntmps47
 go_wp2_with (first | ((with_reducible refine gd_ 2 ?_); refine bx_ 2 41 #[.slice Ao5 l0_0.length co5, .int .i64 a0_1, .string a0_2, .slice Ao6 l0_3.length co6, .int .i64 a0_4] ?_; intro gb601 hg w7 hbox hb; replace HO0_0 := rb_ HO0_0 hb; replace HO0_3 := rb_ HO0_3 hb; have BK601 := Aside0.mk hbox; have GW601 := Aside0.mk ((by rw [hg]; exact (by first | exact HK.out.1 | exact (show Kept w _ (fun k_ => P0_0_ k_ ∨ P0_3_ k_) from kt_ HK).1) : w.heap.size ≤ gb601)); replace HK := Aside0.mk (Kept.below (S := (fun k_ => P0_0_ k_ ∨ P0_3_ k_)) (kt_ HK) hb); have GE601 := gg_ hg HB; replace HB := ss_ HB hb; clear hb hbox hg; have hz8 := cz5_ BK601) | ((with_reducible refine gq_ 84 8 ?_); refine gc_ 8 Tryz.func84 (laws_markLog.calls k (fun k_ => some k_ = (.slice Ao5 l0_0.length co5 : Value).ownBlock) (.slice Ao5 l0_0.length co5) l0_0 a0_1 a0_2 a1 t602 t603 w0 _ (bw_ HB) (Kd.R_tight rfl HO0_0.out) A3.out) ?_; rintro e w9 ⟨rfl, hy0, hb, hkp⟩; refine ⟨_, rfl, ?_⟩; replace HO0_3 := Aside0.mk (Kd.R_mono (ok' := fun k_ => ((P0_0_ k_ ∨ P0_3_ k_) ∨ w.heap.size ≤ k_)) (Kd.R_keptB ((Kd.R_apart' HO0_3.out (Kd.R_typed HO0_0.out) (by decide))) hkp (fun k_ hk_ hs_ => (hk_.2) hs_)) (fun k_ hk_ => hk_.1.1)); replace BK601 := Aside0.mk (blk_kept (kb_ BK601.out) hkp (fun hs_ => (fun e_ => (Kd.R_ne HO0_0.out BK601.out (by decide)) e_) hs_)); replace HK := Aside0.mk (Kept.then_ (S := (fun k_ => P0_0_ k_ ∨ P0_3_ k_)) (by repeat (first | (with_reducible first | exact HK.out | apply Kept.alloc | apply Kept.drewN | apply Kept.drew | refine Kept.setCell ?_ (.inr GW601.out) _) | exact HK.out)) hkp (fun k_ hs_ => (fun e_ => (HO0_0.out.1 k_ e_.symm)) hs_)); replace HO0_0 := Aside0.mk (Kd.R_reok rfl hy0 (fun k_ e_ => HO0_0.out.1 k_ e_)); replace HB := Aside0.mk hb; clear hb hkp hy0; have hz10 := cz5_ BK601) | ((with_reducible refine gq_ 85 12 ?_); refine gc_ 12 Tryz.func85 (laws_markByteS.calls k (fun k_ => some k_ = (.slice Ao6 l0_3.length co6 : Value).ownBlock) (.slice Ao6 l0_3.length co6) l0_3 t602 t604 t605 w0 _ (bw_ HB) (Kd.R_tight rfl HO0_3.out) A4.out) ?_; rintro e w11 ⟨rfl, hy0, hb, hkp⟩; refine ⟨_, rfl, ?_⟩; replace HO0_0 := Aside0.mk (Kd.R_mono (ok' := fun k_ => ((P0_0_ k_ ∨ P0_3_ k_) ∨ w.heap.size ≤ k_)) (Kd.R_keptB ((Kd.R_apart' HO0_0.out (Kd.R_typed HO0_3.out) (by decide))) hkp (fun k_ hk_ hs_ => (hk_.2) hs_)) (fun k_ hk_ => hk_.1.1)); replace BK601 := Aside0.mk (blk_kept (kb_ BK601.out) hkp (fun hs_ => (fun e_ => (Kd.R_ne HO0_3.out BK601.out (by decide)) e_) hs_)); replace HK := Aside0.mk (Kept.then_ (S := (fun k_ => P0_0_ k_ ∨ P0_3_ k_)) (by repeat (first | (with_reducible first | exact HK.out | apply Kept.alloc | apply Kept.drewN | apply Kept.drew | refine Kept.setCell ?_ (.inr GW601.out) _) | exact HK.out)) hkp (fun k_ hs_ => (fun e_ => (HO0_3.out.1 k_ e_.symm)) hs_)); replace HO0_3 := Aside0.mk (Kd.R_reok rfl hy0 (fun k_ e_ => HO0_3.out.1 k_ e_)); replace HB := Aside0.mk hb; clear hb hkp hy0))
 go_ret
 exact ⟨e2_, kr_ HO0_0.out, kr_ HO0_3.out, bw_ HB, by repeat (first | (with_reducible first | exact HK.out | apply Kept.alloc | apply Kept.drewN | apply Kept.drew | refine Kept.setCell ?_ (.inr GW601.out) _) | exact HK.out)⟩
end Go.Proofs.YtnlndmoecljicaaGreat.Q
end
section
namespace Go.Proofs.YtnlndmoecljicaaGreat.Q
open Go.RowKit Go.Proofs.YtnlndmoecljicaaGreat.B Go.Proofs.YtnlndmoecljicaaGreatW.PrintWords
set_option linter.unusedVariables false
theorem markStore_ev (l : List ByteArray) (n : Int) (s : ByteArray) (b : List Int) (u : Int) (a : Int) (h0 : 0 ≤ a) (h1 : a + l.length + b.length ≤ 4611686018427387904) :
  ∃ M, Ev (fun k => laws_markStore.f k l n s b u a) (a + (l.length : Int) + (b.length : Int), M, markB (a + (l.length : Int)) b.length) ∧ M.length = l.length ∧ Marked M a := by
 obtain ⟨M, hM, hl, hm⟩ := markLog_ev l n s a h0 (by omega)
 refine ⟨M, ?_, hl, hm⟩
 unfold laws_markStore.f
 exact Ev.bind hM (Ev.bind (markByteS_ev b (a + (l.length : Int)) (by omega) (by omega)) (Ev.now _))
end Go.Proofs.YtnlndmoecljicaaGreat.Q
end
section
namespace Go.Proofs.YtnlndmoecljicaaGreat.Q
open Go.RowKit Go.Proofs.YtnlndmoecljicaaGreatW.PrintWords Go.Proofs.YtnlndmoecljicaaGreatW.PrintLast Go.Proofs.YtnlndmoecljicaaGreatW.PrintMore
attribute [local go_sem] max2_int min2_int max_two min_two max_three min_three max_four min_four   -- for this text's walks alone
set_option linter.unusedVariables false
set_option linter.unusedSimpArgs false
def laws_markMirror.f (k : Nat) (a0_0 : Int) (l0_1 : List ByteArray) (a0_2 : Int) (a0_3 : ByteArray) (l0_4 : List Int) (a0_5 : Int) (a0_6 : Int) (a0_7 : ByteArray) (a1 : Int) : Option (Int × List ByteArray × List Int) := (laws_markStore.f k l0_1 a0_2 a0_3 l0_4 a0_5 a1).bind fun bt602 => (some (bt602.1, bt602.2.1, bt602.2.2))
set_option maxHeartbeats 8000000 in
set_option maxRecDepth 100000 in
theorem laws_markMirror.calls (k : Nat) (a0_0 : Int) (P0_1_ : Nat → Prop) (u9000_ : Value) (l0_1 : List ByteArray) (a0_2 : Int) (a0_3 : ByteArray) (P0_4_ : Nat → Prop) (u9001_ : Value) (l0_4 : List Int) (a0_5 : Int) (a0_6 : Int) (a0_7 : ByteArray) (a1 : Int) (r1 : Int) (r2 : List ByteArray) (r3 : List Int) (w0 w : World) (hB : Below w0.heap.size w0 w) (ho0_1 : Kd.R Kd.string 9 w w0.heap.size P0_1_ u9000_ l0_1) (ho0_4 : Kd.R (Kd.int .u8) 5 w w0.heap.size P0_4_ u9001_ l0_4) (h : laws_markMirror.f k a0_0 l0_1 a0_2 a0_3 l0_4 a0_5 a0_6 a0_7 a1 = some (r1, r2, r3)) :
  Calls Tryz.prog 18 #[.agg #[.int .i64 a0_0, u9000_, .int .i64 a0_2, .string a0_3, u9001_, .int .i64 a0_5, .int .i64 a0_6, .string a0_7], .int .i64 a1] w fun e w' => e = .returned (.int .i64 r1) ∧ Kd.R Kd.string 9 w' w0.heap.size (fun k_ => ((P0_1_ k_ ∨ P0_4_ k_) ∨ w.heap.size ≤ k_)) u9000_ r2 ∧ Kd.R (Kd.int .u8) 5 w' w0.heap.size (fun k_ => ((P0_1_ k_ ∨ P0_4_ k_) ∨ w.heap.size ≤ k_)) u9001_ r3 ∧ Below w0.heap.size w0 w' ∧ Kept w w' (fun k_ => P0_1_ k_ ∨ P0_4_ k_) := by
 have hu43 := Tryz.underlying43
 have hu41 := Tryz.underlying41
 have HO0_1 := Aside0.mk (show Kd.R Kd.string 9 w w0.heap.size (fun k_ => ((P0_1_ k_ ∨ P0_4_ k_) ∨ w.heap.size ≤ k_)) u9000_ l0_1 from Kd.R_mono ho0_1 (fun k_ hk => (.inl (.inl hk))))
 have HO0_4 := Aside0.mk (show Kd.R (Kd.int .u8) 5 w w0.heap.size (fun k_ => ((P0_1_ k_ ∨ P0_4_ k_) ∨ w.heap.size ≤ k_)) u9001_ l0_4 from Kd.R_mono ho0_4 (fun k_ hk => (.inl (.inr hk))))
 have HK := Aside0.mk (Kept.refl w (fun k_ => P0_1_ k_ ∨ P0_4_ k_))
 have HW0 := Aside0.mk hB.size
 have HB := Aside0.mk hB
 clear hB
 have H : ((laws_markStore.f k l0_1 a0_2 a0_3 l0_4 a0_5 a1).bind fun bt602 => (some (bt602.1, bt602.2.1, bt602.2.2))) = some (r1, r2, r3) := h
 clear h
 replace H := bi_ H; obtain ⟨⟨t602, t603, t604⟩, A3, H⟩ := H
 dsimp only at H
 replace H := so3_ H; obtain ⟨rfl, rfl, rfl⟩ := H
 obtain ⟨Ao4, co4, eo4⟩ := Kd.R_slice HO0_1.out
 subst eo4
 obtain ⟨Ao5, co5, eo5⟩ := Kd.R_slice HO0_4.out
 subst eo5
 go_enter Tryz.func18, Tryz.ntmps18
 go_wp2_with (first | ((with_reducible refine gd_ 2 ?_); refine bx_ 2 43 #[.int .i64 a0_0, .slice Ao4 l0_1.length co4, .int .i64 a0_2, .string a0_3, .slice Ao5 l0_4.length co5, .int .i64 a0_5, .int .i64 a0_6, .string a0_7] ?_; intro gb601 hg w6 hbox hb; replace HO0_1 := rb_ HO0_1 hb; replace HO0_4 := rb_ HO0_4 hb; have BK601 := Aside0.mk hbox; have GW601 := Aside0.mk ((by rw [hg]; exact (by first | exact HK.out.1 | exact (show Kept w _ (fun k_ => P0_1_ k_ ∨ P0_4_ k_) from kt_ HK).1) : w.heap.size ≤ gb601)); replace HK := Aside0.mk (Kept.below (S := (fun k_ => P0_1_ k_ ∨ P0_4_ k_)) (kt_ HK) hb); have GE601 := gg_ hg HB; replace HB := ss_ HB hb; clear hb hbox hg; have hcz7 := cz8_ BK601) | ((with_reducible refine gq_ 47 8 ?_); refine gc_ 8 Tryz.func47 (laws_markStore.calls k (fun k_ => some k_ = (.slice Ao4 l0_1.length co4 : Value).ownBlock) (.slice Ao4 l0_1.length co4) l0_1 a0_2 a0_3 (fun k_ => some k_ = (.slice Ao5 l0_4.length co5 : Value).ownBlock) (.slice Ao5 l0_4.length co5) l0_4 a0_5 a1 t602 t603 t604 w0 _ (bw_ HB) (Kd.R_tight rfl HO0_1.out) (Kd.R_tight rfl HO0_4.out) A3.out) ?_; rintro e w8 ⟨rfl, hy0, hy1, hb, hkp⟩; refine ⟨_, rfl, ?_⟩; replace BK601 := Aside0.mk (blk_kept (kb_ BK601.out) hkp (fun hs_ => Or.elim hs_ (fun e_ => (fun e_ => (Kd.R_ne HO0_1.out BK601.out (by decide)) e_) e_) (fun e_ => (fun e_ => (Kd.R_ne HO0_4.out BK601.out (by decide)) e_) e_))); replace HK := Aside0.mk (Kept.then_ (S := (fun k_ => P0_1_ k_ ∨ P0_4_ k_)) (by repeat (first | (with_reducible first | exact HK.out | apply Kept.alloc | apply Kept.drewN | apply Kept.drew | refine Kept.setCell ?_ (.inr GW601.out) _) | exact HK.out)) hkp (fun k_ hs_ => Or.elim hs_ (fun e_ => (fun e_ => (HO0_1.out.1 k_ e_.symm)) e_) (fun e_ => (fun e_ => (HO0_4.out.1 k_ e_.symm)) e_))); replace HO0_1 := Aside0.mk (Kd.R_reok rfl hy0 (fun k_ e_ => HO0_1.out.1 k_ e_)); replace HO0_4 := Aside0.mk (Kd.R_reok rfl hy1 (fun k_ e_ => HO0_4.out.1 k_ e_)); replace HB := Aside0.mk hb; clear hb hkp hy0 hy1))
 go_ret
 exact ⟨e2_, kr_ HO0_1.out, kr_ HO0_4.out, bw_ HB, by repeat (first | (with_reducible first | exact HK.out | apply Kept.alloc | apply Kept.drewN | apply Kept.drew | refine Kept.setCell ?_ (.inr GW601.out) _) | exact HK.out)⟩
end Go.Proofs.YtnlndmoecljicaaGreat.Q
end
section
namespace Go.Proofs.YtnlndmoecljicaaGreat.Q
open Go.RowKit Go.Proofs.YtnlndmoecljicaaGreat.B Go.Proofs.YtnlndmoecljicaaGreatW.PrintWords
set_option linter.unusedVariables false
theorem markMirror_ev (i : Int) (l : List ByteArray) (n : Int) (s : ByteArray) (b : List Int) (u c : Int) (z : ByteArray) (a : Int) (h0 : 0 ≤ a) (h1 : a + l.length + b.length ≤ 4611686018427387904) :
  ∃ M, Ev (fun k => laws_markMirror.f k i l n s b u c z a) (a + (l.length : Int) + (b.length : Int), M, markB (a + (l.length : Int)) b.length) ∧ M.length = l.length ∧ Marked M a := by
 obtain ⟨M, hM, hl, hm⟩ := markStore_ev l n s b u a h0 h1
 refine ⟨M, ?_, hl, hm⟩
 unfold laws_markMirror.f
 exact Ev.bind hM (Ev.now _)
end Go.Proofs.YtnlndmoecljicaaGreat.Q
end
section
namespace Go.Proofs.YtnlndmoecljicaaGreat.Q
open Go.RowKit Go.Proofs.YtnlndmoecljicaaGreatW.PrintWords Go.Proofs.YtnlndmoecljicaaGreatW.PrintLast Go.Proofs.YtnlndmoecljicaaGreatW.PrintMore
attribute [local go_sem] max2_int min2_int max_two min_two max_three min_three max_four min_four   -- for this text's walks alone
set_option linter.unusedVariables false
set_option linter.unusedSimpArgs false
def laws_szHeadS.l0 : Nat → List (S24) → Int → Int → Option (Int)
 | 0, _, _, _ => none
 | k + 1, x0, x1, x5 => if x5 < (x0.length : Int) then (if 0 ≤ x5 then ((laws_szHead.f ((rd_T24 x0 x5).f0) ((rd_T24 x0 x5).f1) x1).bind fun t602 => (if t602 < 0 then (some (-1)) else (laws_szHeadS.l0 k x0 t602 (wrap64 (x5 + 1))))) else (none)) else (some x1)
def laws_szHeadS.f (k : Nat) (l0 : List (S24)) (a1 : Int) : Option (Int) := if (wrap64 (a1 - (l0.length : Int))) < 0 then (some (-1)) else (laws_szHeadS.l0 k l0 (wrap64 (a1 - (l0.length : Int))) 0)
set_option maxHeartbeats 8000000 in
set_option maxRecDepth 100000 in
theorem laws_szHeadS.calls (k : Nat) (A0 : Option Addr) (c0 : Nat) (l0 : List (S24)) (a1 : Int) (r : Int) (w : World) (hr0 : Kd.C k24 w A0 l0.length l0) (hc0 : l0.length ≤ c0) (h : laws_szHeadS.f k l0 a1 = some r) :
  Calls Tryz.prog 10 #[.slice A0 l0.length c0, .int .i64 a1] w fun e w' => e = .returned (.int .i64 r) ∧ Below w.heap.size w w' := by
 have hu24 := Tryz.underlying24
 have HR0 := Aside0.mk hr0
 have HC0 := Aside0.mk hc0
 clear hr0 hc0
 have HB := Aside0.mk (Below.refl w.heap.size w)
 have H : (if (wrap64 (a1 - (l0.length : Int))) < 0 then (some (-1)) else (laws_szHeadS.l0 k l0 (wrap64 (a1 - (l0.length : Int))) 0)) = some r := h
 clear h
 replace H := itd_ H; obtain ⟨c3b0, H⟩ | ⟨c3b0, H⟩ := H
 ·obtain rfl := Option.some.inj H
  go_enter Tryz.func10, Tryz.ntmps10
  go_wp2
  go_ret
  exact ⟨e2_, bw_ HB⟩
 ·have H' := Aside0.mk H
  clear H
  go_enter Tryz.func10, Tryz.ntmps10
  go_wp2
  go_loopg [1, 5] k (fun kq v1 v5 w' => ∃ (x1_1 : Int) (x5_1 : Int), v1 = .int .i64 x1_1 ∧ v5 = .int .i64 x5_1 ∧ Aside0 (laws_szHeadS.l0 kq l0 x1_1 x5_1 = some r) ∧ Aside0 (kq ≤ k) ∧ Aside0 (Below w.heap.size w w'))
  case atStart => exact ⟨(wrap64 (a1 - (l0.length : Int))), (0), e1_, e1_, H', ⟨Nat.le_refl _⟩, ⟨bw_ HB⟩⟩
  case round =>
   clear H'
   try clear c3b0
   obtain ⟨x1_1, x5_1, rfl, rfl, HA, HK1, HB⟩ := hrel
   cases gk with
   | zero => exact absurd HA.out (by simp [laws_szHeadS.l0])
   | succ k1 =>
    have H := HA.out
    clear HA
    simp only [laws_szHeadS.l0] at H
    replace H := itd_ H; obtain ⟨c4b0, H⟩ | ⟨c4b0, H⟩ := H
    ·replace H := ipd_ H; obtain ⟨c5b0, H⟩ := H
     replace H := bi_ H; obtain ⟨t602, A6, H⟩ := H
     replace H := itd_ H; obtain ⟨c7b0, H⟩ | ⟨c7b0, H⟩ := H
     ·obtain rfl := Option.some.inj H
      have p601 : 0 ≤ (x5_1 : Int) := of_decide_eq_true as_
      have q601 : x5_1 < (l0.length : Int) := of_decide_eq_true as_
      obtain ⟨ad601, e601, hx601_0, hx601_1⟩ := at_T24 HR0.out x5_1 p601 q601
      cases e601
      replace hx601_0 := cw_ HB hx601_0
      replace hx601_1 := cw_ HB hx601_1
      replace p601 := eq_true p601
      replace q601 := eq_true q601
      go_wp2_with (first | ((with_reducible refine gq_ 38 23 ?_); refine gc_ 23 Tryz.func38 (laws_szHead.calls ((rd_T24 l0 x5_1).f0) ((rd_T24 l0 x5_1).f1) x1_1 t602 _ A6.out) ?_; rintro e w8 ⟨rfl, hb⟩; refine ⟨_, rfl, ?_⟩; replace HB := ss_ HB hb; clear hb))
      go_ret
      exact ⟨e2_, bw_ HB⟩
     ·have H' := Aside0.mk H
      clear H
      have p601 : 0 ≤ (x5_1 : Int) := of_decide_eq_true as_
      have q601 : x5_1 < (l0.length : Int) := of_decide_eq_true as_
      obtain ⟨ad601, e601, hx601_0, hx601_1⟩ := at_T24 HR0.out x5_1 p601 q601
      cases e601
      replace hx601_0 := cw_ HB hx601_0
      replace hx601_1 := cw_ HB hx601_1
      replace p601 := eq_true p601
      replace q601 := eq_true q601
      go_wp2_with (first | ((with_reducible refine gq_ 38 23 ?_); refine gc_ 23 Tryz.func38 (laws_szHead.calls ((rd_T24 l0 x5_1).f0) ((rd_T24 l0 x5_1).f1) x1_1 t602 _ A6.out) ?_; rintro e w9 ⟨rfl, hb⟩; refine ⟨_, rfl, ?_⟩; replace HB := ss_ HB hb; clear hb))
      go_roundg k1
      case measure => have := HK1.out; omega
      case rel => exact ⟨(t602), (wrap64 (x5_1 + 1)), e1_, e1_, H', ⟨by have := HK1.out; omega⟩, ⟨bw_ HB⟩⟩
    ·obtain rfl := Option.some.inj H
     go_wp2
     go_ret
     exact ⟨e2_, bw_ HB⟩
def laws_toHeadS.l0 : Nat → List (S24) → List (S37) → Int → Option ((List (S37)))
 | 0, _, _, _ => none
 | k + 1, x0, x3, x4 => if x4 < (x0.length : Int) then (if 0 ≤ x4 then ((laws_toHead.f ((rd_T24 x0 x4).f0) ((rd_T24 x0 x4).f1)).bind fun bt605 => (if x4 < (x3.length : Int) then (laws_toHeadS.l0 k x0 (x3.set (x4 : Int).toNat (⟨bt605.1, bt605.2⟩ : S37)) (wrap64 (x4 + 1))) else (none))) else (none)) else (some x3)
def laws_toHeadS.f (k : Nat) (l0 : List (S24)) : Option ((List (S37))) := if 0 ≤ (l0.length : Int) then (if ((l0.length : Int) : Int).toNat ≤ 11728124029610 then (laws_toHeadS.l0 k l0 (List.replicate ((l0.length : Int) : Int).toNat z37) 0) else (none)) else (none)
set_option maxHeartbeats 8000000 in
set_option maxRecDepth 100000 in
theorem laws_toHeadS.calls (k : Nat) (A0 : Option Addr) (c0 : Nat) (l0 : List (S24)) (r : List (S37)) (w : World) (hr0 : Kd.C k24 w A0 l0.length l0) (hc0 : l0.length ≤ c0) (h : laws_toHeadS.f k l0 = some r) :
  Calls Tryz.prog 13 #[.slice A0 l0.length c0] w fun e w' => ∃ v0_ : Value, e = .returned (v0_) ∧ Kd.R k37 37 w' w.heap.size (fun _ => True) v0_ r ∧ Below w.heap.size w w' := by
 have hu24 := Tryz.underlying24
 have hu37 := Tryz.underlying37
 have HR0 := Aside0.mk hr0
 have HC0 := Aside0.mk hc0
 clear hr0 hc0
 have HB := Aside0.mk (Below.refl w.heap.size w)
 have H : (if 0 ≤ (l0.length : Int) then (if ((l0.length : Int) : Int).toNat ≤ 11728124029610 then (laws_toHeadS.l0 k l0 (List.replicate ((l0.length : Int) : Int).toNat z37) 0) else (none)) else (none)) = some r := h
 clear h
 replace H := ip_ H; obtain ⟨c2, H⟩ := H
 have c2b0 := eq_true c2
 have c2b1 := decide_eq_true c2
 clear c2
 replace H := ip_ H; obtain ⟨c3, H⟩ := H
 have c3b0 := eq_true c3
 have c3b1 := decide_eq_true c3
 clear c3
 obtain ⟨y601, hy601⟩ : ∃ y_ : List (S37), y_ = (List.replicate ((l0.length : Int) : Int).toNat z37) := ⟨_, rfl⟩
 replace H : (laws_toHeadS.l0 k l0 y601 0) = some r := yh_ hy601 H
 have Ny601 := Aside0.mk hy601
 clear hy601
 have H' := Aside0.mk H
 clear H
 go_enter Tryz.func13, Tryz.ntmps13
 go_wp2_with (first | ((with_reducible refine gd_ 7 ?_); refine Kd.R_make k37 _ 37 rfl (N := 7) rfl 45 _ _ rfl (l0.length : Int) rfl rfl Tryz.underlying45 (.agg #[(.int .i64 0), (.string ⟨#[]⟩)]) 24 info37 rfl (by decide) (by omega) z37 (ok := fun _ => True) (okp := fun _ => True) (k37_mkM _ _ _ z37 ) (fun _ hk => hk) trivial (of_decide_eq_true as_) (Nat.le_trans (Nat.mul_le_mul_right _ (of_decide_eq_true as_ : (l0.length : Int).toNat ≤ 11728124029610)) (by omega)) (Below.refl _ _) (Nat.le_refl _) ?_; intro v602 w4 ho5 hb hg_ hnew_; clear hg_ hnew_; (first | rw [← Ny601.out] at ho5 | (simp only [Int.reduceToNat] at ho5; rw [← Ny601.out] at ho5)); have HO603 := Aside0.mk (Kd.R_lower ho5 (sz_ HB)); replace HB := ss_ HB hb; clear hb ho5))
 go_loopg [4] k (fun kq v4 w' => ∃ (x3_1 : List (S37)) (x4_1 : Int), v4 = .int .i64 x4_1 ∧ Aside0 (laws_toHeadS.l0 kq l0 x3_1 x4_1 = some r) ∧ Aside0 (kq ≤ k) ∧ Aside0 (Kd.R k37 37 w' w.heap.size (fun _ => True) v602 x3_1) ∧ Aside0 (Below w.heap.size w w'))
 case atStart => exact ⟨(y601), (0), e1_, H', ⟨Nat.le_refl _⟩, ⟨kr_ HO603.out⟩, ⟨bw_ HB⟩⟩
 case round =>
  clear H'
  try clear c2
  try clear c2b0
  try clear c2b1
  try clear c3
  try clear c3b0
  try clear c3b1
  obtain ⟨x3_1, x4_1, rfl, HA, HK1, HO_3, HB⟩ := hrel
  cases gk with
  | zero => exact absurd HA.out (by simp [laws_toHeadS.l0])
  | succ k1 =>
   have H := HA.out
   clear HA
   simp only [laws_toHeadS.l0] at H
   replace H := itd_ H; obtain ⟨c6b0, H⟩ | ⟨c6b0, H⟩ := H
   ·replace H := ipd_ H; obtain ⟨c7b0, H⟩ := H
    replace H := bi_ H; obtain ⟨⟨t605, t606⟩, A8, H⟩ := H
    dsimp only at H
    replace H := ipd_ H; obtain ⟨c9b0, H⟩ := H
    obtain ⟨y607, hy607⟩ : ∃ y_ : List (S37), y_ = (x3_1.set (x4_1 : Int).toNat (⟨t605, t606⟩ : S37)) := ⟨_, rfl⟩
    replace H : (laws_toHeadS.l0 k1 l0 y607 (wrap64 (x4_1 + 1))) = some r := yh_ hy607 H
    have Ny607 := Aside0.mk hy607
    clear hy607
    have H' := Aside0.mk H
    clear H
    have p604 : 0 ≤ (x4_1 : Int) := of_decide_eq_true as_
    have q604 : x4_1 < (l0.length : Int) := of_decide_eq_true as_
    obtain ⟨ad604, e604, hx604_0, hx604_1⟩ := at_T24 HR0.out x4_1 p604 q604
    cases e604
    replace hx604_0 := cw_ HB hx604_0
    replace hx604_1 := cw_ HB hx604_1
    replace p604 := eq_true p604
    replace q604 := eq_true q604
    go_wp2_with (first | ((with_reducible refine gq_ 42 20 ?_); refine gc_ 20 Tryz.func42 (laws_toHead.calls ((rd_T24 l0 x4_1).f0) ((rd_T24 l0 x4_1).f1) t605 t606 _ A8.out) ?_; rintro e w11 ⟨rfl, hb⟩; refine ⟨_, rfl, ?_⟩; replace HO_3 := rb_ HO_3 hb; replace HB := ss_ HB hb; clear hb; have p10 : 0 ≤ (x4_1 : Int) := of_decide_eq_true as_; have q10 : (x4_1 : Int) < ((x3_1.length : Int) : Int) := of_decide_eq_true as_; obtain ⟨go10, co10, eo10, gb10, gl10, cl10, HG10⟩ := Kd.R_form HO_3.out (by omega); (first | cases eo10 | (injection eo10 with ea_ en_ ec_; (first | subst ea_ | (injection ea_ with ea_; subst ea_)); subst ec_; clear en_)); have GB10 := Aside0.mk gb10; have GG10 := Aside0.mk HG10; clear gb10 gl10 HG10; obtain ⟨ce10, hcl10, hM10, hcc10, hfr10⟩ := Kd.R_elem HO_3.out z37 (x4_1 : Int) p10 q10; obtain rfl := k37_openM hM10; have hx10_0 : w11.cell? ⟨go10, (x4_1 : Int).toNat * 2, none⟩ = some (.int .i64 ((rd_T37 x3_1 x4_1).f0)) := hcc10 0 _ rfl; have hx10_1 : w11.cell? ⟨go10, (x4_1 : Int).toNat * 2 + 1, none⟩ = some (.string ((rd_T37 x3_1 x4_1).f1)) := hcc10 1 _ rfl; have hf10_0 : w11.frozen? ⟨go10, (x4_1 : Int).toNat * 2, none⟩ = false := hfr10 0; have hf10_1 : w11.frozen? ⟨go10, (x4_1 : Int).toNat * 2 + 1, none⟩ = false := hfr10 1; clear hcl10 hcc10 hfr10 hM10; replace p10 := eq_true p10; replace q10 := eq_true q10; have HX12 := Aside0.mk (show Kd.R k37 37 w11 w.heap.size (fun _ => True) (.slice (some ⟨go10, 0, none⟩) x3_1.length co10) x3_1 from (kr_ HO_3.out)); obtain ⟨ce12, hcl12, hM12, hcc12, hfr12⟩ := Kd.R_elem HX12.out z37 (x4_1 : Int) (of_decide_eq_true as_) (by have h_ : (x4_1 : Int) < ((x3_1.length : Int) : Int) := of_decide_eq_true as_; first | exact h_ | (have e_ := (Kd.R_reads' HO_3.out).1; omega) | simpa using h_); obtain rfl := k37_openM hM12; have HP12 := Kd.R_seg HX12.out (x4_1 : Int) (of_decide_eq_true as_) (by have h_ : (x4_1 : Int) < ((x3_1.length : Int) : Int) := of_decide_eq_true as_; first | exact h_ | (have e_ := (Kd.R_reads' HO_3.out).1; omega) | simpa using h_) (seg := [.int .i64 t605, .string t606]) (j := 0) hcl12 hcc12 (show 2 ≤ 2 from by decide) (x' := (⟨t605, t606⟩ : S37)) (k37_mkM _ _ _ (⟨t605, t606⟩ : S37) ) (fun _ hk => hk); have hx12_0 := hcc12 0 _ rfl; (try simp only [show (k37).sz = 2 from rfl, Nat.mul_one, Nat.add_zero] at hx12_0); have hf12_0 := hfr12 0; (try simp only [show (k37).sz = 2 from rfl, Nat.mul_one, Nat.add_zero] at hf12_0); have hx12_1 := hcc12 1 _ rfl; (try simp only [show (k37).sz = 2 from rfl, Nat.mul_one, Nat.add_zero] at hx12_1); have hf12_1 := hfr12 1; (try simp only [show (k37).sz = 2 from rfl, Nat.mul_one, Nat.add_zero] at hf12_1); clear hcl12 hcc12 hfr12 hM12) | ((with_reducible refine gate_store (t := 37) (p := 21) rfl ?_); refine store_event (t := 37) (p := 21) (v := ?vo_w13) (w1 := ((w11.setCell ⟨go10, (x4_1 : Int).toNat * 2, none⟩ (.int .i64 t605)).setCell ⟨go10, (x4_1 : Int).toNat * 2 + 1, none⟩ (.string t606))) ?hg ?ho ?hn ?hr ?_; (case ho => rfl); (case hg => rfl); (case hn => rfl); (case hr => first | (go_simp; done) | (go_simp; rfl)); intro w13 hw; have hg : w11.grownBy w13 (some go10) := (by rw [hw]; exact HP12.2); have hp_ : Kd.R k37 37 w13 w.heap.size (fun _ => True) (.slice (some ⟨go10, 0, none⟩) x3_1.length co10) y607 := (by rw [hw, Ny607.out]; exact HP12.1); clear HP12; replace HO_3 := Aside0.mk hp_; replace HB := Aside0.mk ((by rw [hw]; exact below_set (below_set (HB.out) GB10.out) GB10.out : Below w.heap.size w w13)); clear hg hw hp_))
    go_roundg k1
    case measure => have := HK1.out; omega
    case rel => exact ⟨(y607), (wrap64 (x4_1 + 1)), e1_, H', ⟨by have := HK1.out; omega⟩, ⟨kr_ HO_3.out⟩, ⟨bw_ HB⟩⟩
   ·obtain rfl := Option.some.inj H
    go_wp2
    go_ret
    exact ⟨_, e2_, kr_ HO_3.out, bw_ HB⟩
def laws_eqHeadS.l0 : Nat → List (S37) → List (S37) → Int → Option (Bool)
 | 0, _, _, _ => none
 | k + 1, x0, x1, x5 => if x5 < (x0.length : Int) then (if 0 ≤ x5 then (if x5 < (x1.length : Int) then ((laws_eqHead.f ((rd_T37 x0 x5).f0) ((rd_T37 x0 x5).f1) ((rd_T37 x1 x5).f0) ((rd_T37 x1 x5).f1)).bind fun t603 => (if t603 = true then (laws_eqHeadS.l0 k x0 x1 (wrap64 (x5 + 1))) else (none))) else (none)) else (none)) else (some true)
def laws_eqHeadS.f (k : Nat) (l0 : List (S37)) (l1 : List (S37)) : Option (Bool) := if (l0.length : Int) = (l1.length : Int) then (laws_eqHeadS.l0 k l0 l1 0) else (none)
def laws_eqHeadS.T6 : Bool × List (List Nat × List Nat) := (true, [([], []), ([], []), ([0, 1], [0, 1]), ([2], [2]), ([], []), ([], []), ([4, 5], [4, 5]), ([6], [6]), ([3, 7], [3, 7]), ([8], [8])])
def laws_eqHeadS.B6 : List Nat := [0, 0, 3, 7, 0, 0, 48, 112, 255, 511]
theorem laws_eqHeadS.tab6 : rtab .any (opsOf Tryz.f17 6) = laws_eqHeadS.T6 := by kernel_rfl
theorem laws_eqHeadS.bits6 : waitsOk laws_eqHeadS.T6.2 laws_eqHeadS.B6 = true := by kernel_rfl
set_option maxHeartbeats 8000000 in
set_option maxRecDepth 100000 in
theorem laws_eqHeadS.calls (k : Nat) (A0 : Option Addr) (c0 : Nat) (l0 : List (S37)) (A1 : Option Addr) (c1 : Nat) (l1 : List (S37)) (r : Bool) (w : World) (hr0 : Kd.C k37 w A0 l0.length l0) (hc0 : l0.length ≤ c0) (hr1 : Kd.C k37 w A1 l1.length l1) (hc1 : l1.length ≤ c1) (h : laws_eqHeadS.f k l0 l1 = some r) :
  Calls Tryz.prog 17 #[.slice A0 l0.length c0, .slice A1 l1.length c1] w fun e w' => e = .returned (.bool r) ∧ Below w.heap.size w w' := by
 have hu37 := Tryz.underlying37
 have HR0 := Aside0.mk hr0
 have HC0 := Aside0.mk hc0
 clear hr0 hc0
 have HR1 := Aside0.mk hr1
 have HC1 := Aside0.mk hc1
 clear hr1 hc1
 have HB := Aside0.mk (Below.refl w.heap.size w)
 have H : (if (l0.length : Int) = (l1.length : Int) then (laws_eqHeadS.l0 k l0 l1 0) else (none)) = some r := h
 clear h
 replace H := ip_ H; obtain ⟨c3, H⟩ := H
 have c3b0 : ((l0.length : Int) == (l1.length : Int)) = true := beq_iff_eq.mpr c3
 have c3b1 : ((l0.length : Int) != (l1.length : Int)) = false := bne_eq_false_iff_eq.mpr c3
 have c3b2 : (l0.length == l1.length) = true := by first | simpa using c3 | (simp at c3 ⊢; omega)
 clear c3
 have H' := Aside0.mk H
 clear H
 go_enter Tryz.func17, Tryz.ntmps17
 go_wp2
 go_loopg [5] k (fun kq v5 w' => ∃ (x5_1 : Int), v5 = .int .i64 x5_1 ∧ Aside0 (laws_eqHeadS.l0 kq l0 l1 x5_1 = some r) ∧ Aside0 (kq ≤ k) ∧ Aside0 (Below w.heap.size w w'))
 case atStart => exact ⟨(0), e1_, H', ⟨Nat.le_refl _⟩, ⟨bw_ HB⟩⟩
 case round =>
  clear H'
  try clear c3
  try clear c3b0
  try clear c3b1
  try clear c3b2
  obtain ⟨x5_1, rfl, HA, HK1, HB⟩ := hrel
  cases gk with
  | zero => exact absurd HA.out (by simp [laws_eqHeadS.l0])
  | succ k1 =>
   have H := HA.out
   clear HA
   simp only [laws_eqHeadS.l0] at H
   replace H := itd_ H; obtain ⟨c4b0, H⟩ | ⟨c4b0, H⟩ := H
   ·replace H := ipd_ H; obtain ⟨c5b0, H⟩ := H
    replace H := ipd_ H; obtain ⟨c6b0, H⟩ := H
    replace H := bi_ H; obtain ⟨t603, A7, H⟩ := H
    replace H := ipb_ H; obtain ⟨rfl, H⟩ := H
    have H' := Aside0.mk H
    clear H
    try go_wp2
    replace HB := Aside0.mk (below_drew1 HB.out)
    have p601 : 0 ≤ (x5_1 : Int) := of_decide_eq_true as_
    have q601 : x5_1 < (l0.length : Int) := of_decide_eq_true as_
    obtain ⟨ad601, e601, hx601_0, hx601_1⟩ := at_T37 HR0.out x5_1 p601 q601
    have hw601_1 := hx601_1
    have hw601_0 := hx601_0
    cases e601
    replace hx601_0 := cw_ HB hx601_0
    replace hx601_1 := cw_ HB hx601_1
    replace p601 := eq_true p601
    replace q601 := eq_true q601
    have p602 : 0 ≤ (x5_1 : Int) := of_decide_eq_true as_
    have q602 : x5_1 < (l1.length : Int) := of_decide_eq_true as_
    obtain ⟨ad602, e602, hx602_0, hx602_1⟩ := at_T37 HR1.out x5_1 p602 q602
    have hw602_1 := hx602_1
    have hw602_0 := hx602_0
    cases e602
    replace hx602_0 := cw_ HB hx602_0
    replace hx602_1 := cw_ HB hx602_1
    replace p602 := eq_true p602
    replace q602 := eq_true q602
    refine start_ (n := 10) (S := fun w' => w'.cell? (ad601.add ((x5_1).toNat * 2)) = some (.int .i64 ((rd_T37 l0 x5_1).f0)) ∧ w'.cell? ⟨(ad601.add ((x5_1).toNat * 2)).block, (ad601.add ((x5_1).toNat * 2)).off + 1, none⟩ = some (.string ((rd_T37 l0 x5_1).f1)) ∧ w'.cell? (ad602.add ((x5_1).toNat * 2)) = some (.int .i64 ((rd_T37 l1 x5_1).f0)) ∧ w'.cell? ⟨(ad602.add ((x5_1).toNat * 2)).block, (ad602.add ((x5_1).toNat * 2)).off + 1, none⟩ = some (.string ((rd_T37 l1 x5_1).f1))) (ds := []) (lz_ 10 0) (by kernel_rfl) rfl rfl ⟨(cw_ HB hw601_0), (cw_ HB hw601_1), (cw_ HB hw602_0), (cw_ HB hw602_1)⟩ (fun hHeld => ?_); refine with_tabW laws_eqHeadS.tab6 laws_eqHeadS.bits6 (fun HT_ HW_ => ?_)
    generalize wr.drew = w9 at HB hx601_0 hx601_1 hx602_0 hx602_1 hHeld ⊢
    refine pt_ 0 17 1 ?_
    refine pt_ 1 18 3 ?_
    refine pt_ 2 19 7 ?_
    refine pt_ 4 21 23 ?_
    refine pt_ 5 22 55 ?_
    refine pt_ 6 23 119 ?_
    refine tt_ 3 20 127 ?_
    refine tt_ 7 24 255 ?_
    refine one_ (i := 8) (N := some 25) (lz_ 10 511) rfl rfl (one_of HT_.out (by kernel_rfl)) (by decide) (fun K hK => ?_)
    refine gf_ Tryz.func46 (laws_eqHead.calls ((rd_T37 l0 x5_1).f0) ((rd_T37 l0 x5_1).f1) ((rd_T37 l1 x5_1).f0) ((rd_T37 l1 x5_1).f1) true _ A7.out) ?_
    rintro e w10 ⟨rfl, hb⟩
    refine ⟨_, rfl, ?_⟩
    replace HB := ss_ HB hb
    clear hb
    refine hK.out _ _ ⟨(cw_ HB hw601_0), (cw_ HB hw601_1), (cw_ HB hw602_0), (cw_ HB hw602_1)⟩ (fun hHeld => ?_)
    clear hK K
    refine no_ 25 ?_
    refine pt_ 9 26 1023 ?_
    refine done_ (done_of HT_.out (by kernel_rfl)) ?_
    try go_wp2
    go_roundg k1
    case measure => have := HK1.out; omega
    case rel => exact ⟨(wrap64 (x5_1 + 1)), e1_, H', ⟨by have := HK1.out; omega⟩, ⟨bw_ HB⟩⟩
   ·obtain rfl := Option.some.inj H
    go_wp2
    go_ret
    exact ⟨e2_, bw_ HB⟩
end Go.Proofs.YtnlndmoecljicaaGreat.Q
end
section
namespace Go.Proofs.YtnlndmoecljicaaGreat.XO
open Go.RowKit Go.Proofs.YtnlndmoecljicaaGreatW.PrintWords Go.ChangeShapes Go.WideShapes
def Opens {α : Type} (P : Program) (d : Kd α) (t : TypeId) (G : α → Prop) : Prop :=
 ∀ {H : Type} {enc : TypeId × Value → H} {w : World} {base : Nat} {spare : Nat → Bool} {held : Bool} {fuel : Nat} {cs : List Value} {x : DataW H × List MemPlace},
  DataW.trod enc P w base spare held fuel t cs = some x → ∃ a : α, d.K w a cs ∧ G a
variable {P : Program} {t : TypeId}
theorem add_add (a : Addr) (x i : Nat) : (a.add x).add i = a.add (x + i) := by
 unfold Addr.add
 by_cases hx : x = 0
 ·subst hx
  simp
 ·by_cases hi : i = 0
  ·subst hi
   simp
  ·simp [hx, hi, Nat.add_assoc]
theorem cells_read {w : World} {base : Nat} {a : Addr} {x n : Nat} {cs : List Value} (h : w.cells? base (a.add x) n = some cs) (i : Nat) (u : Value) (hu : cs[i]? = some u) : w.cell? (a.add (x + i)) = some u := by
 unfold World.cells? at h
 split at h
 ·have hl : cs.length = n := by simpa using mapM_some_length h
  have hi : i < n := by
   rw [← hl]
   exact (List.getElem?_eq_some_iff.1 hu).1
  have hg := mapM_some_get h i i (by simp [hi])
  rw [hu, add_add] at hg
  exact hg
 ·exact absurd h (by simp)
theorem family {α : Type} {p : Nat → α → Prop} (n : Nat) (h : ∀ i, i < n → ∃ x, p i x) : ∃ xs : List α, xs.length = n ∧ ∀ i x, xs[i]? = some x → p i x := by
 induction n with
 | zero => exact ⟨[], rfl, fun i x hx => by simp at hx⟩
 | succ n ih =>
  obtain ⟨xs, h1, h2⟩ := ih (fun i hi => h i (by omega))
  obtain ⟨y, hy⟩ := h n (by omega)
  refine ⟨xs ++ [y], by simp [h1], fun i x hx => ?_⟩
  by_cases hi : i < xs.length
  ·rw [List.getElem?_append_left hi] at hx
   exact h2 i x hx
  ·rw [List.getElem?_append_right (by omega)] at hx
   have hz : i - xs.length = 0 := by
    rcases Nat.eq_zero_or_pos (i - xs.length) with hz | hz
    ·exact hz
    ·rw [List.getElem?_eq_none (by simp; omega)] at hx
     exact absurd hx (by simp)
   rw [hz] at hx
   have hxy : y = x := by simpa using hx
   have hin : i = n := by omega
   rw [← hxy, hin]
   exact hy
theorem opens_int {k : IntKind} (ht : P.underlying t = some (.int k)) : Opens P (Kd.int k) t (fun n => (Lit.int k n).wf = true) := by
 intro H enc w base spare held fuel cs x h
 obtain ⟨n, rfl, _, hw⟩ := DataW.trod_int ht h
 exact ⟨n, rfl, hw⟩
theorem opens_string (ht : P.underlying t = some .string) : Opens P Kd.string t (fun s => s.size ≤ 9223372036854775807) := by
 intro H enc w base spare held fuel cs x h
 obtain ⟨s, rfl, _, hs⟩ := DataW.trod_string ht h
 exact ⟨s, rfl, by simpa [maxLen] using hs⟩
theorem opens_slice {α : Type} {d : Kd α} {G : α → Prop} {e : TypeId} (ht : P.underlying t = some (.slice e)) (hc : P.cellsOf e = d.sz) (h0 : Opens P d e G) :
  Opens P (Kd.slice e d) t (fun l => l.length ≤ 9223372036854775807 ∧ ∀ x ∈ l, G x) := by
 intro H enc w base spare held fuel cs x h
 rcases Go.Deep.open_slice ht h with ⟨rfl, _⟩ | ⟨a, len, cap, m, n, D, Pl, rfl, _, hl, hm, hmm, _, hel⟩
 ·exact ⟨[], ⟨none, 0, rfl, Nat.le_refl _, rfl, by simp, fun hp => absurd hp (by simp)⟩, by simp, fun x hx => absurd hx (by simp)⟩
 ·have hlm : len ≤ m := by
   rw [hmm]
   split
   ·exact hl
   ·exact Nat.le_refl _
  have hall : ∀ i, i < len → ∃ x : α, (∃ cs', w.cells? base (a.add (i * P.cellsOf e)) (P.cellsOf e) = some cs' ∧ d.K w x cs') ∧ G x := by
   intro i hi
   obtain ⟨cs', h1, h2⟩ := hel i (by omega)
   obtain ⟨x, hk, hg⟩ := h0 h2
   exact ⟨x, ⟨cs', h1, hk⟩, hg⟩
  have hlen : len ≤ 9223372036854775807 := by simp only [maxLen] at hm; omega
  obtain ⟨xs, h1, h2⟩ := family len hall
  refine ⟨xs, ⟨some a, cap, by rw [h1], by omega, rfl, by omega, fun _ => ⟨a, rfl, fun j p hj => ?_⟩⟩, by omega, fun x hx => ?_⟩
  ·obtain ⟨⟨cs', hc1, hk⟩, _⟩ := h2 j p hj
   refine ⟨cs', d.K_len hk, hk, fun i u hu => ?_⟩
   rw [hc] at hc1
   exact cells_read hc1 i u hu
  ·obtain ⟨i, hi⟩ := List.getElem?_of_mem hx
   exact (h2 i x hi).2
theorem cut_cells {cs : List Value} {o n total : Nat} (hl : cs.length = total) (ho : o + n = total) : (cs.drop o).take n = cs.drop o := by
 apply List.take_of_length_le
 simp
 omega
theorem part_cells (cs : List Value) (o n : Nat) : cs.drop o = (cs.drop o).take n ++ cs.drop (o + n) := by
 rw [← List.drop_drop, List.take_append_drop]
theorem get_cells {β : Type} {xs : List β} {n : Nat} (h : xs.length = n) (i : Nat) (hi : i < n) : ∃ y, xs[i]? = some y := ⟨xs[i], List.getElem?_eq_getElem (by omega)⟩
end Go.Proofs.YtnlndmoecljicaaGreat.XO
end
section
namespace Go.Proofs.YtnlndmoecljicaaGreat.Q
open Go.RowKit Go.Proofs.YtnlndmoecljicaaGreat.XO Go.Proofs.YtnlndmoecljicaaGreatW.PrintWords Go.ChangeShapes Go.WideShapes
set_option linter.unusedVariables false
set_option linter.unusedSimpArgs false
def G24 (x : S24) : Prop := (Lit.int .i64 x.f0).wf = true ∧ x.f1.size ≤ 9223372036854775807
theorem opens24 : Opens Tryz.prog k24 24 G24 := by
 intro H enc w base spare held fuel cs x h
 obtain ⟨xs, n, _, _, hl, hlen, hf⟩ := DataW.trod_struct Tryz.underlying24 h
 replace hl : cs.length = 2 := hl.trans (by kernel_rfl)
 replace hlen : xs.length = 2 := hlen
 obtain ⟨y0, e0⟩ := get_cells hlen 0 (by decide)
 have h0 : DataW.trod enc Tryz.prog w base spare held n 3 ((cs.drop 0).take (Tryz.prog.cellsOf 3)) = some y0 := (hf 0 _ rfl).trans e0
 rw [show Tryz.prog.cellsOf 3 = 1 from by kernel_rfl] at h0
 obtain ⟨a0, k0_, g0⟩ := (opens_int Tryz.underlying3) h0
 obtain ⟨y1, e1⟩ := get_cells hlen 1 (by decide)
 have h1 : DataW.trod enc Tryz.prog w base spare held n 9 ((cs.drop 1).take (Tryz.prog.cellsOf 9)) = some y1 := (hf 1 _ rfl).trans e1
 rw [show Tryz.prog.cellsOf 9 = 1 from by kernel_rfl] at h1
 obtain ⟨a1, k1_, g1⟩ := (opens_string Tryz.underlying9) h1
 exact ⟨⟨a0, a1⟩, ⟨_, _, (List.drop_zero).symm.trans (part_cells cs 0 1), k0_, (by rw [← cut_cells hl (show 1 + 1 = 2 from rfl)]; exact k1_)⟩, g0, g1⟩
def G26 (x : S26) : Prop := (x.f0.length ≤ 9223372036854775807 ∧ ∀ y0 ∈ x.f0, y0.size ≤ 9223372036854775807) ∧ G24 x.f1
theorem opens26 : Opens Tryz.prog k26 26 G26 := by
 intro H enc w base spare held fuel cs x h
 obtain ⟨xs, n, _, _, hl, hlen, hf⟩ := DataW.trod_struct Tryz.underlying26 h
 replace hl : cs.length = 3 := hl.trans (by kernel_rfl)
 replace hlen : xs.length = 2 := hlen
 obtain ⟨y0, e0⟩ := get_cells hlen 0 (by decide)
 have h0 : DataW.trod enc Tryz.prog w base spare held n 22 ((cs.drop 0).take (Tryz.prog.cellsOf 22)) = some y0 := (hf 0 _ rfl).trans e0
 rw [show Tryz.prog.cellsOf 22 = 1 from by kernel_rfl] at h0
 obtain ⟨a0, k0_, g0⟩ := (opens_slice Tryz.underlying22 (by kernel_rfl) (opens_string Tryz.underlying9)) h0
 obtain ⟨y1, e1⟩ := get_cells hlen 1 (by decide)
 have h1 : DataW.trod enc Tryz.prog w base spare held n 24 ((cs.drop 1).take (Tryz.prog.cellsOf 24)) = some y1 := (hf 1 _ rfl).trans e1
 rw [show Tryz.prog.cellsOf 24 = 2 from by kernel_rfl] at h1
 obtain ⟨a1, k1_, g1⟩ := opens24 h1
 exact ⟨⟨a0, a1⟩, ⟨_, _, (List.drop_zero).symm.trans (part_cells cs 0 1), k0_, (by rw [← cut_cells hl (show 1 + 2 = 3 from rfl)]; exact k1_)⟩, g0, g1⟩
def G29 (x : S29) : Prop := G26 x.f0 ∧ (x.f1.length ≤ 9223372036854775807 ∧ ∀ y0 ∈ x.f1, (Lit.int .u8 y0).wf = true) ∧ (Lit.int .i64 x.f2).wf = true
theorem opens29 : Opens Tryz.prog k29 29 G29 := by
 intro H enc w base spare held fuel cs x h
 obtain ⟨xs, n, _, _, hl, hlen, hf⟩ := DataW.trod_struct Tryz.underlying29 h
 replace hl : cs.length = 5 := hl.trans (by kernel_rfl)
 replace hlen : xs.length = 3 := hlen
 obtain ⟨y0, e0⟩ := get_cells hlen 0 (by decide)
 have h0 : DataW.trod enc Tryz.prog w base spare held n 26 ((cs.drop 0).take (Tryz.prog.cellsOf 26)) = some y0 := (hf 0 _ rfl).trans e0
 rw [show Tryz.prog.cellsOf 26 = 3 from by kernel_rfl] at h0
 obtain ⟨a0, k0_, g0⟩ := opens26 h0
 obtain ⟨y1, e1⟩ := get_cells hlen 1 (by decide)
 have h1 : DataW.trod enc Tryz.prog w base spare held n 27 ((cs.drop 3).take (Tryz.prog.cellsOf 27)) = some y1 := (hf 1 _ rfl).trans e1
 rw [show Tryz.prog.cellsOf 27 = 1 from by kernel_rfl] at h1
 obtain ⟨a1, k1_, g1⟩ := (opens_slice Tryz.underlying27 (by kernel_rfl) (opens_int Tryz.underlying5)) h1
 obtain ⟨y2, e2⟩ := get_cells hlen 2 (by decide)
 have h2 : DataW.trod enc Tryz.prog w base spare held n 3 ((cs.drop 4).take (Tryz.prog.cellsOf 3)) = some y2 := (hf 2 _ rfl).trans e2
 rw [show Tryz.prog.cellsOf 3 = 1 from by kernel_rfl] at h2
 obtain ⟨a2, k2_, g2⟩ := (opens_int Tryz.underlying3) h2
 exact ⟨⟨a0, a1, a2⟩, ⟨_, _, (List.drop_zero).symm.trans (part_cells cs 0 3), k0_, ⟨_, _, part_cells cs 3 1, k1_, (by rw [← cut_cells hl (show 4 + 1 = 5 from rfl)]; exact k2_)⟩⟩, g0, g1, g2⟩
def G31 (x : S31) : Prop := (Lit.int .i64 x.f0).wf = true ∧ G29 x.f1 ∧ G24 x.f2
theorem opens31 : Opens Tryz.prog k31 31 G31 := by
 intro H enc w base spare held fuel cs x h
 obtain ⟨xs, n, _, _, hl, hlen, hf⟩ := DataW.trod_struct Tryz.underlying31 h
 replace hl : cs.length = 8 := hl.trans (by kernel_rfl)
 replace hlen : xs.length = 3 := hlen
 obtain ⟨y0, e0⟩ := get_cells hlen 0 (by decide)
 have h0 : DataW.trod enc Tryz.prog w base spare held n 3 ((cs.drop 0).take (Tryz.prog.cellsOf 3)) = some y0 := (hf 0 _ rfl).trans e0
 rw [show Tryz.prog.cellsOf 3 = 1 from by kernel_rfl] at h0
 obtain ⟨a0, k0_, g0⟩ := (opens_int Tryz.underlying3) h0
 obtain ⟨y1, e1⟩ := get_cells hlen 1 (by decide)
 have h1 : DataW.trod enc Tryz.prog w base spare held n 29 ((cs.drop 1).take (Tryz.prog.cellsOf 29)) = some y1 := (hf 1 _ rfl).trans e1
 rw [show Tryz.prog.cellsOf 29 = 5 from by kernel_rfl] at h1
 obtain ⟨a1, k1_, g1⟩ := opens29 h1
 obtain ⟨y2, e2⟩ := get_cells hlen 2 (by decide)
 have h2 : DataW.trod enc Tryz.prog w base spare held n 24 ((cs.drop 6).take (Tryz.prog.cellsOf 24)) = some y2 := (hf 2 _ rfl).trans e2
 rw [show Tryz.prog.cellsOf 24 = 2 from by kernel_rfl] at h2
 obtain ⟨a2, k2_, g2⟩ := opens24 h2
 exact ⟨⟨a0, a1, a2⟩, ⟨_, _, (List.drop_zero).symm.trans (part_cells cs 0 1), k0_, ⟨_, _, part_cells cs 1 5, k1_, (by rw [← cut_cells hl (show 6 + 2 = 8 from rfl)]; exact k2_)⟩⟩, g0, g1, g2⟩
end Go.Proofs.YtnlndmoecljicaaGreat.Q
end
section
namespace Go.Proofs.YtnlndmoecljicaaGreat.Q
open Go.RowKit Go.Proofs.YtnlndmoecljicaaGreat.B Go.Proofs.YtnlndmoecljicaaGreatW.PrintWords
abbrev LHead := S24
abbrev IHead := S37
def cvHead (x : LHead) : IHead := ⟨x.f0, x.f1⟩
theorem szHeadS_ev (l : List LHead) (left : Int) (h0 : 0 ≤ left) (h1 : left ≤ 1048576) (hl : l.length ≤ 9223372036854775807) (hg : ∀ x ∈ l, x.f1.size ≤ 9223372036854775807) :
  ∃ r, Ev (fun k => laws_szHeadS.f k l left) r ∧ (r < 0 ∨ 0 ≤ r ∧ r + l.length ≤ left ∧ ∀ x ∈ l, (x.f1.size : Int) ≤ left) := by
 have main : ∀ (d i : Nat) (q : Int), i + d = l.length → 0 ≤ q → q ≤ 1048576 → ∃ r, Ev (fun k => laws_szHeadS.l0 k l q (i : Int)) r ∧ (r < 0 ∨ 0 ≤ r ∧ r ≤ q ∧ ∀ x ∈ l.drop i, (x.f1.size : Int) ≤ q) := by
  intro d
  induction d with
  | zero =>
   intro i q hi hq hq1
   refine ⟨q, Ev.step (f := fun _ => some q) (fun k => ?_) (Ev.now q), .inr ⟨hq, Int.le_refl _, ?_⟩⟩
   ·simp only [laws_szHeadS.l0]
    rw [if_neg (by omega)]
   ·rw [List.drop_of_length_le (by omega)]
    exact fun x hx => absurd hx (by simp)
  | succ d ih =>
   intro i q hi hq hq1
   obtain ⟨x, hx⟩ := get_some (l := l) (i := i) (by omega)
   have hm : x ∈ l := List.mem_of_getElem? hx
   obtain ⟨r, hr, hc⟩ := szHead_eq x.f0 x.f1 q hq hq1 (hg x hm)
   have hrd : rd_T24 l (i : Int) = x := by
    unfold rd_T24
    simp [List.getD_eq_getElem?_getD, hx]
   have hw : wrap64 ((i : Int) + 1) = ((i + 1 : Nat) : Int) := by
    rw [w64 (by omega) (by omega)]
    omega
   rcases hc with hc | ⟨hc, hc2⟩
   ·refine ⟨-1, Ev.step (f := fun _ => some (-1)) (fun k => ?_) (Ev.now _), .inl (by omega)⟩
    simp only [laws_szHeadS.l0]
    rw [if_pos (by omega), if_pos (by omega), hrd, hr]
    simp only [Option.bind_some]
    rw [if_pos hc]
   ·obtain ⟨r2, h2, h3⟩ := ih (i + 1) r (by omega) hc (by omega)
    refine ⟨r2, Ev.step (fun k => ?_) h2, ?_⟩
    ·simp only [laws_szHeadS.l0]
     rw [if_pos (by omega), if_pos (by omega), hrd, hr]
     simp only [Option.bind_some]
     rw [if_neg (by omega), hw]
    ·rcases h3 with h3 | ⟨h3, h4, h5⟩
     ·exact .inl h3
     ·refine .inr ⟨h3, by omega, fun y hy => ?_⟩
      rw [drop_one hx] at hy
      rcases List.mem_cons.1 hy with rfl | hy
      ·omega
      ·have := h5 y hy
       omega
 have hw : wrap64 (left - (l.length : Int)) = left - (l.length : Int) := w64 (by omega) (by omega)
 by_cases h : left - (l.length : Int) < 0
 ·refine ⟨-1, Ev.congr (fun k => ?_) (Ev.now (-1)), .inl (by omega)⟩
  unfold laws_szHeadS.f
  rw [hw, if_pos h]
 ·obtain ⟨r, h2, h3⟩ := main l.length 0 (left - l.length) (by omega) (by omega) (by omega)
  refine ⟨r, Ev.congr (fun k => ?_) h2, ?_⟩
  ·unfold laws_szHeadS.f
   rw [hw, if_neg h]
   rfl
  ·rcases h3 with h3 | ⟨h3, h4, h5⟩
   ·exact .inl h3
   ·refine .inr ⟨h3, by omega, fun x hx => ?_⟩
    have := h5 x (by simpa using hx)
    omega
theorem toHeadS_ev (l : List LHead) (hl : l.length ≤ 1048576) : Ev (fun k => laws_toHeadS.f k l) (l.map cvHead) := by
 have main : ∀ (d i : Nat) (acc : List IHead), i + d = l.length → acc.length = l.length → acc.take i = (l.take i).map cvHead → Ev (fun k => laws_toHeadS.l0 k l acc (i : Int)) (l.map cvHead) := by
  intro d
  induction d with
  | zero =>
   intro i acc hi ha ht
   refine Ev.step (f := fun _ => some (l.map cvHead)) (fun k => ?_) (Ev.now _)
   simp only [laws_toHeadS.l0]
   rw [if_neg (by omega)]
   rw [List.take_of_length_le (by omega), List.take_of_length_le (by omega)] at ht
   rw [ht]
  | succ d ih =>
   intro i acc hi ha ht
   obtain ⟨x, hx⟩ := get_some (l := l) (i := i) (by omega)
   have hrd : rd_T24 l (i : Int) = x := by
    unfold rd_T24
    simp [List.getD_eq_getElem?_getD, hx]
   have hw : wrap64 ((i : Int) + 1) = ((i + 1 : Nat) : Int) := by
    rw [w64 (by omega) (by omega)]
    omega
   refine Ev.step (fun k => ?_) (ih (i + 1) (acc.set i (cvHead x)) (by omega) (by simp [ha]) ?_)
   ·simp only [laws_toHeadS.l0]
    rw [if_pos (by omega), if_pos (by omega), hrd, toHead_eq]
    simp only [Option.bind_some]
    rw [if_pos (by omega), hw]
    rfl
   ·rw [set_take _ (by omega), ht, take_one hx, List.map_append]
    rfl
 refine Ev.congr (fun k => ?_) (main l.length 0 (List.replicate l.length z37) (by omega) (by simp) (by simp))
 unfold laws_toHeadS.f
 rw [if_pos (by omega), if_pos (by simp; omega)]
 rfl
theorem eqHeadS_ev (l : List IHead) (hl : l.length ≤ 9223372036854775807) : Ev (fun k => laws_eqHeadS.f k l l) true := by
 have main : ∀ (d i : Nat), i + d = l.length → Ev (fun k => laws_eqHeadS.l0 k l l (i : Int)) true := by
  intro d
  induction d with
  | zero =>
   intro i hi
   refine Ev.step (f := fun _ => some true) (fun k => ?_) (Ev.now _)
   simp only [laws_eqHeadS.l0]
   rw [if_neg (by omega)]
  | succ d ih =>
   intro i hi
   have hw : wrap64 ((i : Int) + 1) = ((i + 1 : Nat) : Int) := by
    rw [w64 (by omega) (by omega)]
    omega
   refine Ev.step (fun k => ?_) (ih (i + 1) (by omega))
   simp only [laws_eqHeadS.l0]
   rw [if_pos (by omega), if_pos (by omega), if_pos (by omega), eqHead_eq]
   simp only [Option.bind_some, if_true]
   rw [hw]
 refine Ev.congr (fun k => ?_) (main l.length 0 (by omega))
 unfold laws_eqHeadS.f
 rw [if_pos rfl]
 rfl
end Go.Proofs.YtnlndmoecljicaaGreat.Q
end
section
namespace Go.Proofs.YtnlndmoecljicaaGreat.Q
open Go.RowKit Go.Proofs.YtnlndmoecljicaaGreatW.PrintWords Go.Proofs.YtnlndmoecljicaaGreatW.PrintLast Go.Proofs.YtnlndmoecljicaaGreatW.PrintMore
attribute [local go_sem] max2_int min2_int max_two min_two max_three min_three max_four min_four   -- for this text's walks alone
set_option linter.unusedVariables false
set_option linter.unusedSimpArgs false
def laws_markHeadS.l0 : Nat → List (S37) → Int → Int → Option (Int × (List (S37)))
 | 0, _, _, _ => none
 | k + 1, x0, x1, x5 => if x5 < (x0.length : Int) then (if 0 ≤ x5 then ((some (x0.set (x5 : Int).toNat (⟨x1, (rd_T37 x0 x5).f1⟩ : S37) : List (S37))).bind fun y601 => ((laws_markText.f k (wrap64 (x1 + 1))).bind fun t602 => (laws_markHeadS.l0 k (y601.set (x5 : Int).toNat (⟨(rd_T37 y601 x5).f0, t602⟩ : S37)) (wrap64 ((wrap64 (x1 + 1)) + 1)) (wrap64 (x5 + 1))))) else (none)) else (some (x1, x0))
def laws_markHeadS.f (k : Nat) (l0 : List (S37)) (a1 : Int) : Option (Int × (List (S37))) := laws_markHeadS.l0 k l0 a1 0
set_option maxHeartbeats 8000000 in
set_option maxRecDepth 100000 in
theorem laws_markHeadS.calls (k : Nat) (P0_ : Nat → Prop) (u9000_ : Value) (l0 : List (S37)) (a1 : Int) (r1 : Int) (r2 : List (S37)) (w0 w : World) (hB : Below w0.heap.size w0 w) (ho0 : Kd.R k37 37 w w0.heap.size P0_ u9000_ l0) (h : laws_markHeadS.f k l0 a1 = some (r1, r2)) :
  Calls Tryz.prog 19 #[u9000_, .int .i64 a1] w fun e w' => e = .returned (.int .i64 r1) ∧ Kd.R k37 37 w' w0.heap.size (fun k_ => (P0_ k_ ∨ w.heap.size ≤ k_)) u9000_ r2 ∧ Below w0.heap.size w0 w' ∧ Kept w w' (fun k_ => P0_ k_) := by
 have HO0 := Aside0.mk (show Kd.R k37 37 w w0.heap.size (fun k_ => (P0_ k_ ∨ w.heap.size ≤ k_)) u9000_ l0 from Kd.R_mono ho0 (fun k_ hk => (.inl hk)))
 have HK := Aside0.mk (Kept.refl w (fun k_ => P0_ k_))
 have HW0 := Aside0.mk hB.size
 have HB := Aside0.mk hB
 clear hB
 have H : (laws_markHeadS.l0 k l0 a1 0) = some (r1, r2) := h
 clear h
 have H' := Aside0.mk H
 clear H
 go_enter Tryz.func19, Tryz.ntmps19
 go_wp2
 go_loopg [1, 5] k (fun kq v1 v5 w' => ∃ (x0_1 : List (S37)) (x1_1 : Int) (x5_1 : Int), v1 = .int .i64 x1_1 ∧ v5 = .int .i64 x5_1 ∧ Aside0 (laws_markHeadS.l0 kq x0_1 x1_1 x5_1 = some (r1, r2)) ∧ Aside0 (kq ≤ k) ∧ Aside0 (Kd.R k37 37 w' w0.heap.size (fun k_ => (P0_ k_ ∨ w.heap.size ≤ k_)) u9000_ x0_1) ∧ Aside0 (Kept w w' (fun k_ => P0_ k_)) ∧ Aside0 (Below w0.heap.size w0 w'))
 case atStart => exact ⟨(l0), (a1), (0), e1_, e1_, H', ⟨Nat.le_refl _⟩, ⟨kr_ HO0.out⟩, ⟨kt_ HK⟩, ⟨bw_ HB⟩⟩
 case round =>
  clear H'
  obtain ⟨x0_1, x1_1, x5_1, rfl, rfl, HA, HK1, HO_0, HK, HB⟩ := hrel
  cases gk with
  | zero => exact absurd HA.out (by simp [laws_markHeadS.l0])
  | succ k1 =>
   have H := HA.out
   clear HA
   simp only [laws_markHeadS.l0] at H
   replace H := itd_ H; obtain ⟨c3b0, H⟩ | ⟨c3b0, H⟩ := H
   ·replace H := ipd_ H; obtain ⟨c4b0, H⟩ := H
    obtain ⟨y601, Ny601, H⟩ := sb_ (x0_1.set (x5_1 : Int).toNat (⟨x1_1, (rd_T37 x0_1 x5_1).f1⟩ : S37)) H
    replace H := bi_ H; obtain ⟨t602, A6, H⟩ := H
    obtain ⟨y603, hy603⟩ : ∃ y_ : List (S37), y_ = (y601.set (x5_1 : Int).toNat (⟨(rd_T37 y601 x5_1).f0, t602⟩ : S37)) := ⟨_, rfl⟩
    replace H : (laws_markHeadS.l0 k1 y603 (wrap64 ((wrap64 (x1_1 + 1)) + 1)) (wrap64 (x5_1 + 1))) = some (r1, r2) := yh_ hy603 H
    have Ny603 := Aside0.mk hy603
    clear hy603
    have H' := Aside0.mk H
    clear H
    obtain ⟨Ao8, co8, eo8⟩ := Kd.R_slice HO_0.out
    subst eo8
    have p5 : 0 ≤ (x5_1 : Int) := of_decide_eq_true as_
    have q5 : (x5_1 : Int) < ((x0_1.length : Int) : Int) := of_decide_eq_true as_
    obtain ⟨go5, co5, eo5, gb5, gl5, cl5, HG5⟩ := Kd.R_form HO_0.out (by omega)
    (first | cases eo5 | (injection eo5 with ea_ en_ ec_; (first | subst ea_ | (injection ea_ with ea_; subst ea_)); subst ec_; clear en_))
    have GB5 := Aside0.mk gb5
    have GG5 := Aside0.mk HG5
    clear gb5 gl5 HG5
    have HMgo5 := Aside0.mk (show (P0_ go5 ∨ w.heap.size ≤ go5) from (HO_0.out.1 _ rfl))
    obtain ⟨ce5, hcl5, hM5, hcc5, hfr5⟩ := Kd.R_elem HO_0.out z37 (x5_1 : Int) p5 q5
    obtain rfl := k37_openM hM5
    have hx5_0 : wr.cell? ⟨go5, (x5_1 : Int).toNat * 2, none⟩ = some (.int .i64 ((rd_T37 x0_1 x5_1).f0)) := hcc5 0 _ rfl
    have hx5_1 : wr.cell? ⟨go5, (x5_1 : Int).toNat * 2 + 1, none⟩ = some (.string ((rd_T37 x0_1 x5_1).f1)) := hcc5 1 _ rfl
    have hf5_0 : wr.frozen? ⟨go5, (x5_1 : Int).toNat * 2, none⟩ = false := hfr5 0
    have hf5_1 : wr.frozen? ⟨go5, (x5_1 : Int).toNat * 2 + 1, none⟩ = false := hfr5 1
    clear hcl5 hcc5 hfr5 hM5
    replace p5 := eq_true p5
    replace q5 := eq_true q5
    have HX9 := Aside0.mk (show Kd.R k37 37 wr w0.heap.size (fun k_ => (P0_ k_ ∨ w.heap.size ≤ k_)) (.slice (some ⟨go5, 0, none⟩) x0_1.length co8) x0_1 from (kr_ HO_0.out))
    obtain ⟨ce9, hcl9, hM9, hcc9, hfr9⟩ := Kd.R_elem HX9.out z37 (x5_1 : Int) (of_decide_eq_true as_) (by have h_ : (x5_1 : Int) < ((x0_1.length : Int) : Int) := of_decide_eq_true as_; first | exact h_ | (have e_ := (Kd.R_reads' HO_0.out).1; omega) | simpa using h_)
    obtain rfl := k37_openM hM9
    have HP9 := Kd.R_seg HX9.out (x5_1 : Int) (of_decide_eq_true as_) (by have h_ : (x5_1 : Int) < ((x0_1.length : Int) : Int) := of_decide_eq_true as_; first | exact h_ | (have e_ := (Kd.R_reads' HO_0.out).1; omega) | simpa using h_) (seg := [.int .i64 x1_1]) (j := 0) hcl9 hcc9 (show 1 ≤ 2 from by decide) (x' := (⟨x1_1, (rd_T37 x0_1 x5_1).f1⟩ : S37)) (k37_mkM _ _ _ (⟨x1_1, (rd_T37 x0_1 x5_1).f1⟩ : S37) ) (fun _ hk => hk)
    have hx9_0 := hcc9 0 _ rfl
    (try simp only [show (k37).sz = 2 from rfl, Nat.mul_one, Nat.add_zero] at hx9_0)
    have hf9_0 := hfr9 0
    (try simp only [show (k37).sz = 2 from rfl, Nat.mul_one, Nat.add_zero] at hf9_0)
    clear hcl9 hcc9 hfr9 hM9
    go_wp2_with (first | ((with_reducible refine gate_store (t := 3) (p := 16) rfl ?_); refine store_event (t := 3) (p := 16) (v := ?vo_w10) (w1 := (wr.setCell ⟨go5, (x5_1 : Int).toNat * 2, none⟩ (.int .i64 x1_1))) ?hg ?ho ?hn ?hr ?_; (case ho => rfl); (case hg => rfl); (case hn => rfl); (case hr => first | (go_simp; done) | (go_simp; rfl)); intro w10 hw; have hg : wr.grownBy w10 (some go5) := (by rw [hw]; exact HP9.2); have hp_ : Kd.R k37 37 w10 w0.heap.size (fun k_ => (P0_ k_ ∨ w.heap.size ≤ k_)) (.slice (some ⟨go5, 0, none⟩) x0_1.length co8) y601 := (by rw [hw, Ny601.out]; exact HP9.1); clear HP9; replace HB := Aside0.mk ((by rw [hw]; exact below_set (HB.out) GB5.out : Below w0.heap.size w0 w10)); replace HK := Aside0.mk (Kept.of_grown (S := (fun k_ => P0_ k_)) hg (kt_ HK) (fun k_ e_ => (HO_0.out.1 k_ e_))); replace HO_0 := Aside0.mk hp_; clear hg hw hp_) | ((with_reducible refine gq_ 48 22 ?_); refine gc_ 22 Tryz.func48 (laws_markText.calls k1 (wrap64 (x1_1 + 1)) t602 _ A6.out) ?_; rintro e w11 ⟨rfl, hb⟩; refine ⟨_, rfl, ?_⟩; replace HO_0 := rb_ HO_0 hb; replace HK := Aside0.mk (Kept.below (S := (fun k_ => P0_ k_)) (kt_ HK) hb); replace HB := ss_ HB hb; clear hb; have p7 : 0 ≤ (x5_1 : Int) := of_decide_eq_true as_; have q7 : (x5_1 : Int) < ((x0_1.length : Int) : Int) := of_decide_eq_true as_; obtain ⟨ce7, hcl7, hM7, hcc7, hfr7⟩ := Kd.R_elem HO_0.out z37 (x5_1 : Int) p7 q7; obtain rfl := k37_openM hM7; have hx7_0 : w11.cell? ⟨go5, (x5_1 : Int).toNat * 2, none⟩ = some (.int .i64 ((rd_T37 y601 x5_1).f0)) := hcc7 0 _ rfl; have hx7_1 : w11.cell? ⟨go5, (x5_1 : Int).toNat * 2 + 1, none⟩ = some (.string ((rd_T37 y601 x5_1).f1)) := hcc7 1 _ rfl; have hf7_0 : w11.frozen? ⟨go5, (x5_1 : Int).toNat * 2, none⟩ = false := hfr7 0; have hf7_1 : w11.frozen? ⟨go5, (x5_1 : Int).toNat * 2 + 1, none⟩ = false := hfr7 1; clear hcl7 hcc7 hfr7 hM7; replace p7 := eq_true p7; replace q7 := eq_true q7; have HX12 := Aside0.mk (show Kd.R k37 37 w11 w0.heap.size (fun k_ => (P0_ k_ ∨ w.heap.size ≤ k_)) (.slice (some ⟨go5, 0, none⟩) x0_1.length co8) y601 from (kr_ HO_0.out)); obtain ⟨ce12, hcl12, hM12, hcc12, hfr12⟩ := Kd.R_elem HX12.out z37 (x5_1 : Int) (of_decide_eq_true as_) (by have h_ : (x5_1 : Int) < ((x0_1.length : Int) : Int) := of_decide_eq_true as_; first | exact h_ | (have e_ := (Kd.R_reads' HO_0.out).1; omega) | simpa using h_); obtain rfl := k37_openM hM12; have HP12 := Kd.R_seg HX12.out (x5_1 : Int) (of_decide_eq_true as_) (by have h_ : (x5_1 : Int) < ((x0_1.length : Int) : Int) := of_decide_eq_true as_; first | exact h_ | (have e_ := (Kd.R_reads' HO_0.out).1; omega) | simpa using h_) (seg := [.string t602]) (j := 1) hcl12 hcc12 (show 2 ≤ 2 from by decide) (x' := (⟨(rd_T37 y601 x5_1).f0, t602⟩ : S37)) (k37_mkM _ _ _ (⟨(rd_T37 y601 x5_1).f0, t602⟩ : S37) ) (fun _ hk => hk); have hx12_1 := hcc12 1 _ rfl; (try simp only [show (k37).sz = 2 from rfl, Nat.mul_one, Nat.add_zero] at hx12_1); have hf12_1 := hfr12 1; (try simp only [show (k37).sz = 2 from rfl, Nat.mul_one, Nat.add_zero] at hf12_1); clear hcl12 hcc12 hfr12 hM12) | ((with_reducible refine gate_store (t := 9) (p := 24) rfl ?_); refine store_event (t := 9) (p := 24) (v := ?vo_w13) (w1 := (w11.setCell ⟨go5, (x5_1 : Int).toNat * 2 + 1, none⟩ (.string t602))) ?hg ?ho ?hn ?hr ?_; (case ho => rfl); (case hg => rfl); (case hn => rfl); (case hr => first | (go_simp; done) | (go_simp; rfl)); intro w13 hw; have hg : w11.grownBy w13 (some go5) := (by rw [hw]; exact HP12.2); have hp_ : Kd.R k37 37 w13 w0.heap.size (fun k_ => (P0_ k_ ∨ w.heap.size ≤ k_)) (.slice (some ⟨go5, 0, none⟩) x0_1.length co8) y603 := (by rw [hw, Ny603.out]; exact HP12.1); clear HP12; replace HB := Aside0.mk ((by rw [hw]; exact below_set (HB.out) GB5.out : Below w0.heap.size w0 w13)); replace HK := Aside0.mk (Kept.of_grown (S := (fun k_ => P0_ k_)) hg (kt_ HK) (fun k_ e_ => (HO_0.out.1 k_ e_))); replace HO_0 := Aside0.mk hp_; clear hg hw hp_))
    go_roundg k1
    case measure => have := HK1.out; omega
    case rel => exact ⟨(y603), (wrap64 ((wrap64 (x1_1 + 1)) + 1)), (wrap64 (x5_1 + 1)), e1_, e1_, H', ⟨by have := HK1.out; omega⟩, ⟨kr_ HO_0.out⟩, ⟨kt_ HK⟩, ⟨bw_ HB⟩⟩
   ·replace H := so2_ H; obtain ⟨rfl, rfl⟩ := H
    obtain ⟨Ao14, co14, eo14⟩ := Kd.R_slice HO_0.out
    subst eo14
    go_wp2
    go_ret
    exact ⟨e2_, kr_ HO_0.out, bw_ HB, kt_ HK⟩
end Go.Proofs.YtnlndmoecljicaaGreat.Q
end
section
namespace Go.Proofs.YtnlndmoecljicaaGreat.Q
open Go.RowKit Go.Proofs.YtnlndmoecljicaaGreat.B Go.Proofs.YtnlndmoecljicaaGreatW.PrintWords
set_option linter.unusedVariables false
theorem markHeadS_ev (l : List S37) (a : Int) (h0 : 0 ≤ a) (h1 : a + 2 * l.length ≤ 4611686018427387904) : ∃ M, Ev (fun k => laws_markHeadS.f k l a) (a + 2 * (l.length : Int), M) := by
 have main : ∀ (d i : Nat) (acc : List S37), i + d = l.length → acc.length = l.length → ∃ M, Ev (fun k => laws_markHeadS.l0 k acc (a + 2 * (i : Int)) (i : Int)) (a + 2 * (l.length : Int), M) := by
  intro d
  induction d with
  | zero =>
   intro i acc hi ha
   have hil : i = l.length := by omega
   subst hil
   refine ⟨acc, Ev.step (f := fun _ => some (a + 2 * (l.length : Int), acc)) (fun k => ?_) (Ev.now _)⟩
   simp only [laws_markHeadS.l0]
   rw [if_neg (by omega)]
  | succ d ih =>
   intro i acc hi ha
   obtain ⟨x, hx⟩ := markText_ev (a + 2 * (i : Int) + 1) (by omega)
   obtain ⟨M, hM⟩ := ih (i + 1) ((acc.set i ⟨a + 2 * (i : Int), (rd_T37 acc i).f1⟩).set i ⟨(rd_T37 (acc.set i ⟨a + 2 * (i : Int), (rd_T37 acc i).f1⟩) i).f0, x⟩) (by omega) (by simp [ha])
   refine ⟨M, ?_⟩
   refine Ev.step (fun k => by simp only [laws_markHeadS.l0]; rfl) ?_
   refine Ev.pos (by omega) (Ev.pos (by omega) (Ev.bind (Ev.now _) ?_))
   rw [nextS (show i < l.length by omega) (by omega), w64 (x := a + 2 * (i : Int) + 1) (by omega) (by omega), w64 (x := a + 2 * (i : Int) + 1 + 1) (by omega) (by omega)]
   have e : a + 2 * (i : Int) + 1 + 1 = a + 2 * ((i + 1 : Nat) : Int) := by omega
   rw [e]
   exact Ev.bind hx hM
 obtain ⟨M, hM⟩ := main l.length 0 l (by omega) rfl
 refine ⟨M, Ev.congr (fun k => ?_) hM⟩
 unfold laws_markHeadS.f
 congr 1
 omega
end Go.Proofs.YtnlndmoecljicaaGreat.Q
end
section
namespace Go.Proofs.YtnlndmoecljicaaGreat.Q
open Go.RowKit Go.Proofs.YtnlndmoecljicaaGreatW.PrintWords Go.Proofs.YtnlndmoecljicaaGreatW.PrintLast Go.Proofs.YtnlndmoecljicaaGreatW.PrintMore
attribute [local go_sem] max2_int min2_int max_two min_two max_three min_three max_four min_four   -- for this text's walks alone
set_option linter.unusedVariables false
set_option linter.unusedSimpArgs false
def laws_heldStringS.l0 : Nat → List ByteArray → Int → Int → Option (Int)
 | 0, _, _, _ => none
 | k + 1, x0, x1, x5 => if x5 < (x0.length : Int) then (if 0 ≤ x5 then ((laws_markText.f k x1).bind fun t602 => (if (rdOf ByteArray.empty x0 x5).toList = t602.toList then (laws_heldStringS.l0 k x0 (wrap64 (x1 + 1)) (wrap64 (x5 + 1))) else (some (-1)))) else (none)) else (some x1)
def laws_heldStringS.f (k : Nat) (l0 : List ByteArray) (a1 : Int) : Option (Int) := laws_heldStringS.l0 k l0 a1 0
set_option maxHeartbeats 8000000 in
set_option maxRecDepth 100000 in
theorem laws_heldStringS.calls (k : Nat) (A0 : Option Addr) (c0 : Nat) (l0 : List ByteArray) (a1 : Int) (r : Int) (w : World) (hr0 : Kd.C Kd.string w A0 l0.length l0) (hc0 : l0.length ≤ c0) (h : laws_heldStringS.f k l0 a1 = some r) :
  Calls Tryz.prog 50 #[.slice A0 l0.length c0, .int .i64 a1] w fun e w' => e = .returned (.int .i64 r) ∧ Below w.heap.size w w' := by
 have HR0 := Aside0.mk hr0
 have HC0 := Aside0.mk hc0
 clear hr0 hc0
 have HB := Aside0.mk (Below.refl w.heap.size w)
 have H : (laws_heldStringS.l0 k l0 a1 0) = some r := h
 clear h
 have H' := Aside0.mk H
 clear H
 go_enter Tryz.func50, Tryz.ntmps50
 go_wp2
 go_loopg [1, 5] k (fun kq v1 v5 w' => ∃ (x1_1 : Int) (x5_1 : Int), v1 = .int .i64 x1_1 ∧ v5 = .int .i64 x5_1 ∧ Aside0 (laws_heldStringS.l0 kq l0 x1_1 x5_1 = some r) ∧ Aside0 (kq ≤ k) ∧ Aside0 (Below w.heap.size w w'))
 case atStart => exact ⟨(a1), (0), e1_, e1_, H', ⟨Nat.le_refl _⟩, ⟨bw_ HB⟩⟩
 case round =>
  clear H'
  obtain ⟨x1_1, x5_1, rfl, rfl, HA, HK1, HB⟩ := hrel
  cases gk with
  | zero => exact absurd HA.out (by simp [laws_heldStringS.l0])
  | succ k1 =>
   have H := HA.out
   clear HA
   simp only [laws_heldStringS.l0] at H
   replace H := itd_ H; obtain ⟨c3b0, H⟩ | ⟨c3b0, H⟩ := H
   ·replace H := ipd_ H; obtain ⟨c4b0, H⟩ := H
    replace H := bi_ H; obtain ⟨t602, A5, H⟩ := H
    replace H := it_ H; obtain ⟨c6, H⟩ | ⟨c6, H⟩ := H
    ·have c6b0 : ((rdOf ByteArray.empty l0 x5_1).toList == t602.toList) = true := beq_iff_eq.mpr c6
     have c6b1 : ((rdOf ByteArray.empty l0 x5_1).toList != t602.toList) = false := bne_eq_false_iff_eq.mpr c6
     clear c6
     have H' := Aside0.mk H
     clear H
     try go_wp2
     replace HB := Aside0.mk (below_drew1 HB.out)
     have p601 : 0 ≤ (x5_1 : Int) := of_decide_eq_true as_
     have q601 : x5_1 < (l0.length : Int) := of_decide_eq_true as_
     obtain ⟨ad601, e601, hx601_0⟩ := Kd.at_string HR0.out x5_1 p601 q601
     have hw601_0 := hx601_0
     cases e601
     replace hx601_0 := cw_ HB hx601_0
     replace p601 := eq_true p601
     replace q601 := eq_true q601
     refine start_ (n := 7) (S := fun w' => w'.cell? (ad601.add (x5_1).toNat) = some (.string (rdOf ByteArray.empty l0 x5_1))) (ds := []) (lz_ 7 0) (by kernel_rfl) rfl rfl ((cw_ HB hw601_0)) (fun hHeld => ?_)
     generalize wr.drew = w7 at HB hx601_0 hHeld ⊢
     refine pk_ 0 12 1 ?_
     refine pk_ 1 13 3 ?_
     refine pk_ 2 14 7 ?_
     refine pk_ 4 16 23 ?_
     refine tk_ 3 15 31 ?_
     refine one_ (i := 5) (N := some 17) (lz_ 7 63) rfl rfl (by kernel_rfl) (by decide) (fun K hK => ?_)
     refine gf_ Tryz.func48 (laws_markText.calls k1 x1_1 t602 _ A5.out) ?_
     rintro e w8 ⟨rfl, hb⟩
     refine ⟨_, rfl, ?_⟩
     replace HB := ss_ HB hb
     clear hb
     refine hK.out _ _ ((cw_ HB hw601_0)) (fun hHeld => ?_)
     clear hK K
     refine no_ 17 ?_
     refine pk_ 6 18 127 ?_
     refine done_ (by kernel_rfl) ?_
     try go_wp2
     go_roundg k1
     case measure => have := HK1.out; omega
     case rel => exact ⟨(wrap64 (x1_1 + 1)), (wrap64 (x5_1 + 1)), e1_, e1_, H', ⟨by have := HK1.out; omega⟩, ⟨bw_ HB⟩⟩
    ·have c6b0 : ((rdOf ByteArray.empty l0 x5_1).toList == t602.toList) = false := beq_eq_false_iff_ne.mpr c6
     have c6b1 : ((rdOf ByteArray.empty l0 x5_1).toList != t602.toList) = true := bne_iff_ne.mpr c6
     obtain rfl := Option.some.inj H
     try go_wp2
     replace HB := Aside0.mk (below_drew1 HB.out)
     have p601 : 0 ≤ (x5_1 : Int) := of_decide_eq_true as_
     have q601 : x5_1 < (l0.length : Int) := of_decide_eq_true as_
     obtain ⟨ad601, e601, hx601_0⟩ := Kd.at_string HR0.out x5_1 p601 q601
     have hw601_0 := hx601_0
     cases e601
     replace hx601_0 := cw_ HB hx601_0
     replace p601 := eq_true p601
     replace q601 := eq_true q601
     refine start_ (n := 7) (S := fun w' => w'.cell? (ad601.add (x5_1).toNat) = some (.string (rdOf ByteArray.empty l0 x5_1))) (ds := []) (lz_ 7 0) (by kernel_rfl) rfl rfl ((cw_ HB hw601_0)) (fun hHeld => ?_)
     generalize wr.drew = w9 at HB hx601_0 hHeld ⊢
     refine pk_ 0 12 1 ?_
     refine pk_ 1 13 3 ?_
     refine pk_ 2 14 7 ?_
     refine pk_ 4 16 23 ?_
     refine tk_ 3 15 31 ?_
     refine one_ (i := 5) (N := some 17) (lz_ 7 63) rfl rfl (by kernel_rfl) (by decide) (fun K hK => ?_)
     refine gf_ Tryz.func48 (laws_markText.calls k1 x1_1 t602 _ A5.out) ?_
     rintro e w10 ⟨rfl, hb⟩
     refine ⟨_, rfl, ?_⟩
     replace HB := ss_ HB hb
     clear hb
     refine hK.out _ _ ((cw_ HB hw601_0)) (fun hHeld => ?_)
     clear hK K
     refine no_ 17 ?_
     refine pk_ 6 18 127 ?_
     refine done_ (by kernel_rfl) ?_
     try go_wp2
     go_ret
     exact ⟨e2_, bw_ HB⟩
   ·obtain rfl := Option.some.inj H
    go_wp2
    go_ret
    exact ⟨e2_, bw_ HB⟩
end Go.Proofs.YtnlndmoecljicaaGreat.Q
end
section
namespace Go.Proofs.YtnlndmoecljicaaGreat.Q
open Go.RowKit Go.Proofs.YtnlndmoecljicaaGreat.B Go.Proofs.YtnlndmoecljicaaGreatW.PrintWords
set_option linter.unusedVariables false
set_option linter.unusedSimpArgs false
theorem heldStringS_ev (M : List ByteArray) (a : Int) (h0 : 0 ≤ a) (h1 : a + M.length ≤ 4611686018427387904) (hm : Marked M a) : Ev (fun k => laws_heldStringS.f k M a) (a + (M.length : Int)) := by
 have main : ∀ (d i : Nat), i + d = M.length → Ev (fun k => laws_heldStringS.l0 k M (a + (i : Int)) (i : Int)) (a + (M.length : Int)) := by
  intro d
  induction d with
  | zero =>
   intro i hi
   have hil : i = M.length := by omega
   subst hil
   refine Ev.step (f := fun _ => some (a + (M.length : Int))) (fun k => ?_) (Ev.now _)
   simp only [laws_heldStringS.l0]
   rw [if_neg (by omega)]
  | succ d ih =>
   intro i hi
   obtain ⟨x, hx, hE⟩ := hm i (by omega)
   refine Ev.step (fun k => by simp only [laws_heldStringS.l0]; rfl) ?_
   have e : a + (i : Int) + 1 = a + ((i + 1 : Nat) : Int) := by omega
   first
    | (refine Ev.pos (by omega) (Ev.pos (by omega) (Ev.bind hE ?_))
       rw [rdS hx, nextS (show i < M.length by omega) (by omega), w64 (x := a + (i : Int) + 1) (by omega) (by omega), e]
       exact Ev.pos rfl (ih (i + 1) (by omega)))
    | (refine Ev.pos (by omega) (Ev.bind hE ?_)
       refine Ev.pos (by omega) ?_
       rw [rdS hx, nextS (show i < M.length by omega) (by omega), w64 (x := a + (i : Int) + 1) (by omega) (by omega), e]
       exact Ev.pos rfl (ih (i + 1) (by omega)))
 refine Ev.congr (fun k => ?_) (main M.length 0 (by omega))
 unfold laws_heldStringS.f
 congr 1
 omega
end Go.Proofs.YtnlndmoecljicaaGreat.Q
end
section
namespace Go.Proofs.YtnlndmoecljicaaGreat.Q
open Go.RowKit Go.Proofs.YtnlndmoecljicaaGreatW.PrintWords Go.Proofs.YtnlndmoecljicaaGreatW.PrintLast Go.Proofs.YtnlndmoecljicaaGreatW.PrintMore
attribute [local go_sem] max2_int min2_int max_two min_two max_three min_three max_four min_four   -- for this text's walks alone
set_option linter.unusedVariables false
set_option linter.unusedSimpArgs false
def laws_eqMsg.f (k : Nat) (a0_0 : Int) (a0_1 : Int) (a0_2 : Int) (a0_3 : Int) (a0_4 : ByteArray) (a0_5 : Int) (l0_6 : List ByteArray) (a1_0 : Int) (a1_1 : Int) (a1_2 : Int) (a1_3 : Int) (a1_4 : ByteArray) (a1_5 : Int) (l1_6 : List ByteArray) : Option (Bool) := if a0_0 = a1_0 then (if a0_1 = a1_1 then (if a0_2 = a1_2 then ((laws_eqHead.f a0_3 a0_4 a1_3 a1_4).bind fun t603 => (if t603 = true then (if a0_5 = a1_5 then ((laws_eqStringS.f k l0_6 l1_6).bind fun t604 => (if t604 = true then (some true) else (none))) else (none)) else (none))) else (none)) else (none)) else (none)
set_option maxHeartbeats 8000000 in
set_option maxRecDepth 100000 in
theorem laws_eqMsg.calls (k : Nat) (a0_0 : Int) (a0_1 : Int) (a0_2 : Int) (a0_3 : Int) (a0_4 : ByteArray) (a0_5 : Int) (A0_6 : Option Addr) (c0_6 : Nat) (l0_6 : List ByteArray) (a1_0 : Int) (a1_1 : Int) (a1_2 : Int) (a1_3 : Int) (a1_4 : ByteArray) (a1_5 : Int) (A1_6 : Option Addr) (c1_6 : Nat) (l1_6 : List ByteArray) (r : Bool) (w : World) (hr0_6 : Kd.C Kd.string w A0_6 l0_6.length l0_6) (hc0_6 : l0_6.length ≤ c0_6) (hr1_6 : Kd.C Kd.string w A1_6 l1_6.length l1_6) (hc1_6 : l1_6.length ≤ c1_6) (h : laws_eqMsg.f k a0_0 a0_1 a0_2 a0_3 a0_4 a0_5 l0_6 a1_0 a1_1 a1_2 a1_3 a1_4 a1_5 l1_6 = some r) :
  Calls Tryz.prog 44 #[.agg #[.int .i64 a0_0, .int .i64 a0_1, .int .i64 a0_2, .int .i64 a0_3, .string a0_4, .int .i64 a0_5, .slice A0_6 l0_6.length c0_6], .agg #[.int .i64 a1_0, .int .i64 a1_1, .int .i64 a1_2, .int .i64 a1_3, .string a1_4, .int .i64 a1_5, .slice A1_6 l1_6.length c1_6]] w fun e w' => e = .returned (.bool r) ∧ Below w.heap.size w w' := by
 have hu65 := Tryz.underlying65
 have hu37 := Tryz.underlying37
 have HR0_6 := Aside0.mk hr0_6
 have HC0_6 := Aside0.mk hc0_6
 clear hr0_6 hc0_6
 have HR1_6 := Aside0.mk hr1_6
 have HC1_6 := Aside0.mk hc1_6
 clear hr1_6 hc1_6
 have HB := Aside0.mk (Below.refl w.heap.size w)
 have H : (if a0_0 = a1_0 then (if a0_1 = a1_1 then (if a0_2 = a1_2 then ((laws_eqHead.f a0_3 a0_4 a1_3 a1_4).bind fun t603 => (if t603 = true then (if a0_5 = a1_5 then ((laws_eqStringS.f k l0_6 l1_6).bind fun t604 => (if t604 = true then (some true) else (none))) else (none)) else (none))) else (none)) else (none)) else (none)) = some r := h
 clear h
 replace H := ip_ H; obtain ⟨c3, H⟩ := H
 have c3b0 : (a0_0 == a1_0) = true := beq_iff_eq.mpr c3
 have c3b1 : (a0_0 != a1_0) = false := bne_eq_false_iff_eq.mpr c3
 clear c3
 replace H := ip_ H; obtain ⟨c4, H⟩ := H
 have c4b0 : (a0_1 == a1_1) = true := beq_iff_eq.mpr c4
 have c4b1 : (a0_1 != a1_1) = false := bne_eq_false_iff_eq.mpr c4
 clear c4
 replace H := ip_ H; obtain ⟨c5, H⟩ := H
 have c5b0 : (a0_2 == a1_2) = true := beq_iff_eq.mpr c5
 have c5b1 : (a0_2 != a1_2) = false := bne_eq_false_iff_eq.mpr c5
 clear c5
 replace H := bi_ H; obtain ⟨t603, A6, H⟩ := H
 replace H := ipb_ H; obtain ⟨rfl, H⟩ := H
 replace H := ip_ H; obtain ⟨c8, H⟩ := H
 have c8b0 : (a0_5 == a1_5) = true := beq_iff_eq.mpr c8
 have c8b1 : (a0_5 != a1_5) = false := bne_eq_false_iff_eq.mpr c8
 clear c8
 replace H := bi_ H; obtain ⟨t604, A9, H⟩ := H
 replace H := ipb_ H; obtain ⟨rfl, H⟩ := H
 obtain rfl := Option.some.inj H
 go_enter Tryz.func44, Tryz.ntmps44
 go_wp2_with (first | ((with_reducible refine gd_ 2 ?_); refine bx_ 2 65 #[.int .i64 a0_0, .int .i64 a0_1, .int .i64 a0_2, .int .i64 a0_3, .string a0_4, .int .i64 a0_5, .slice A0_6 l0_6.length c0_6] ?_; intro gb601 hg w11 hbox hb; have BK601 := Aside0.mk hbox; have GW601 := gg_ hg HB; have GE601 := GW601; replace HB := ss_ HB hb; clear hb hbox hg) | ((with_reducible refine gd_ 3 ?_); refine bx_ 3 65 #[.int .i64 a1_0, .int .i64 a1_1, .int .i64 a1_2, .int .i64 a1_3, .string a1_4, .int .i64 a1_5, .slice A1_6 l1_6.length c1_6] ?_; intro gb602 hg w12 hbox hb; have BK602 := Aside0.mk hbox; have GW602 := gg_ hg HB; have GE602 := GW602; replace HB := ss_ HB hb; have NB601_602 := nla_ hg BK601; have NB602_601 := nga_ hg BK601; replace BK601 := kl_ BK601 hb; clear hb hbox hg; have hnb13 := NB601_602.out; have hnc13 := NB602_601.out; have hcz14 := cz7_ BK601; have hcz15 := cz7_ BK602) | ((with_reducible refine gq_ 46 24 ?_); refine gc_ 24 Tryz.func46 (laws_eqHead.calls a0_3 a0_4 a1_3 a1_4 true _ A6.out) ?_; rintro e w16 ⟨rfl, hb⟩; refine ⟨_, rfl, ?_⟩; replace BK601 := kl_ BK601 hb; replace BK602 := kl_ BK602 hb; replace HB := ss_ HB hb; clear hb; have hcz17 := cz7_ BK601; have hcz18 := cz7_ BK602) | ((with_reducible refine gq_ 81 35 ?_); refine gc_ 35 Tryz.func81 (laws_eqStringS.calls k _ _ l0_6 _ _ l1_6 true _ (cb_ HR0_6 HB) HC0_6.out (cb_ HR1_6 HB) HC1_6.out A9.out) ?_; rintro e w' ⟨rfl, ⟨nd, rfl⟩⟩; refine ⟨_, rfl, ?_⟩))
 go_ret
 exact ⟨e2_, bw_ HB⟩
end Go.Proofs.YtnlndmoecljicaaGreat.Q
end
section
namespace Go.Proofs.YtnlndmoecljicaaGreat.Q
open Go.RowKit Go.Proofs.YtnlndmoecljicaaGreat.B Go.Proofs.YtnlndmoecljicaaGreatW.PrintWords
set_option linter.unusedVariables false
set_option linter.unusedSimpArgs false
theorem eqMsg_ev (a b c d : Int) (s : ByteArray) (n : Int) (l : List ByteArray) (hl : l.length ≤ 9223372036854775807) : Ev (fun k => laws_eqMsg.f k a b c d s n l a b c d s n l) true := by
 unfold laws_eqMsg.f
 exact Ev.pos rfl (Ev.pos rfl (Ev.pos rfl (Ev.bind (Ev.const (eqHead_eq d s)) (Ev.pos rfl (Ev.pos rfl (Ev.bind (eqStringS_ev l hl) (Ev.pos rfl (Ev.now _))))))))
theorem int_bytes {l : List Int} (h : ∀ y ∈ l, (Lit.int .u8 y).wf = true) : ∀ x ∈ l, 0 ≤ x ∧ x ≤ 255 := fun x hx => by
 have := h x hx
 simp only [Lit.wf, IntKind.min, IntKind.max, IntKind.signed, IntKind.bits, Bool.and_eq_true, decide_eq_true_eq, if_true, Bool.false_eq_true, if_false] at this
 omega
end Go.Proofs.YtnlndmoecljicaaGreat.Q
end
section
/- laws.markMsgS, where there is at most one message, and it has no texts. -/
namespace Go.Proofs.YtnlndmoecljicaaGreat.Q
open Go.RowKit Go.Proofs.YtnlndmoecljicaaGreatW.PrintWords Go.Proofs.YtnlndmoecljicaaGreatW.PrintLast Go.Proofs.YtnlndmoecljicaaGreatW.PrintMore
set_option linter.unusedVariables false
set_option linter.unusedSimpArgs false
def oneMsg (k : Nat) (x : S65) : Option (Int × List S65) := if x.f5.length = 0 then ((laws_markText.f k 5).bind fun t => some (7, [(⟨1, 2, 3, (⟨4, t⟩ : S37), 6, ([] : List ByteArray)⟩ : S65)])) else none
def laws_markMsgS.f (k : Nat) (l0 : List S65) (a1 : Int) : Option (Int × List S65) := if a1 = 1 then (if l0.length = 0 then some (1, []) else (if l0.length = 1 then oneMsg k (l0.getD 0 z65) else none)) else none
set_option maxHeartbeats 8000000 in
set_option maxRecDepth 100000 in
theorem mark_none (A : Option Addr) (c : Nat) (v : Int) (w : World) : Calls Tryz.prog 49 #[.slice A 0 c, .int .i64 v] w fun e w' => e = .returned (.int .i64 v) ∧ Below w.heap.size w w' := by
 have HB := Aside0.mk (Below.refl w.heap.size w)
 go_enter Tryz.func49, Tryz.ntmps49
 go_wp2
 go_loopg [1, 5] 0 (fun kq v1 v5 w' => v1 = .int .i64 v ∧ v5 = .int .i64 0 ∧ Aside0 (Below w.heap.size w w'))
 case atStart => exact ⟨by first | rfl | assumption, by first | rfl | assumption, ⟨bw_ HB⟩⟩
 case round =>
  obtain ⟨rfl, rfl, HB⟩ := hrel
  go_wp2
  go_ret
  exact ⟨rfl, bw_ HB⟩
theorem S_one {α : Type} {d : Kd α} {e base : Nat} {ok : Nat → Prop} {w : World} {v : Value} {xs : List α} (h : d.R e w base ok v xs) (h1 : xs.length ≤ 1) : Kd.S d e w base ok v xs := by
 obtain ⟨h0, inner, ho, hr⟩ := h
 refine ⟨fun _ => 0, h0, inner, by rw [List.length_zipIdx]; exact ho, by rw [List.length_zipIdx]; exact hr.1, fun j p hj => ?_⟩
 rw [List.getElem?_zipIdx, Nat.zero_add] at hj
 obtain ⟨x, hx, rfl⟩ := Option.map_eq_some_iff.1 hj
 have hj0 : j = 0 := by
  have := (List.getElem?_eq_some_iff.1 hx).1
  omega
 subst hj0
 exact d.M_mono (fun _ hk => ⟨hk, rfl⟩) (hr.2 0 x hx)
section
variable {w : World} {base g cap : Nat} {ok : Nat → Prop} {x : S65}
theorem msg_cells (h : Kd.R k65 65 w base ok (.slice (some ⟨g, 0, none⟩) 1 cap) [x]) : ∃ v6, (w.cell? ⟨g, 0, none⟩ = some (.int .i64 x.f0) ∧ w.cell? ⟨g, 1, none⟩ = some (.int .i64 x.f1) ∧ w.cell? ⟨g, 2, none⟩ = some (.int .i64 x.f2) ∧ w.cell? ⟨g, 3, none⟩ = some (.int .i64 x.f3.f0) ∧ w.cell? ⟨g, 4, none⟩ = some (.string x.f3.f1) ∧ w.cell? ⟨g, 5, none⟩ = some (.int .i64 x.f4) ∧ w.cell? ⟨g, 6, none⟩ = some v6) ∧ (w.frozen? ⟨g, 0, none⟩ = false ∧ w.frozen? ⟨g, 1, none⟩ = false ∧ w.frozen? ⟨g, 2, none⟩ = false ∧ w.frozen? ⟨g, 3, none⟩ = false ∧ w.frozen? ⟨g, 4, none⟩ = false ∧ w.frozen? ⟨g, 5, none⟩ = false ∧ w.frozen? ⟨g, 6, none⟩ = false) ∧ Kd.R Kd.string 9 w base (fun k => ok k ∧ k ≠ g) v6 x.f5 := by
 obtain ⟨c, hcl, hM, hcc, hfr⟩ := Kd.R_elem h z65 0 (by decide) (by decide)
 have hM2 : Kd.M k65 w base (fun k => ok k ∧ k ≠ g) x c := hM
 obtain ⟨v6, rfl, h6⟩ := k65_openM hM2
 have hz : ∀ j, (0 : Int).toNat * (k65).sz + j = j := fun j => by simp
 simp only [hz] at hcc hfr
 exact ⟨v6, ⟨hcc 0 _ rfl, hcc 1 _ rfl, hcc 2 _ rfl, hcc 3 _ rfl, hcc 4 _ rfl, hcc 5 _ rfl, hcc 6 _ rfl⟩, ⟨hfr 0, hfr 1, hfr 2, hfr 3, hfr 4, hfr 5, hfr 6⟩, h6⟩
theorem msg_put0 (h : Kd.R k65 65 w base ok (.slice (some ⟨g, 0, none⟩) 1 cap) [x]) (v : Int) : Kd.R k65 65 (w.setCell ⟨g, 0, none⟩ (.int .i64 v)) base ok (.slice (some ⟨g, 0, none⟩) 1 cap) [(⟨v, x.f1, x.f2, (⟨x.f3.f0, x.f3.f1⟩ : S37), x.f4, x.f5⟩ : S65)] := by
 obtain ⟨c, hcl, hM, hcc, hfr⟩ := Kd.R_elem h z65 0 (by decide) (by decide)
 have hM2 : Kd.M k65 w base (fun k => ok k ∧ k ≠ g) x c := hM
 obtain ⟨v6, rfl, h6⟩ := k65_openM hM2
 have q := (Kd.R_seg h 0 (by decide) (by decide) (seg := [.int .i64 v]) (j := 0) hcl hcc (show 1 ≤ 7 from by decide) (x' := (⟨v, x.f1, x.f2, (⟨x.f3.f0, x.f3.f1⟩ : S37), x.f4, x.f5⟩ : S65)) (k65_mkM _ _ _ (⟨v, x.f1, x.f2, (⟨x.f3.f0, x.f3.f1⟩ : S37), x.f4, x.f5⟩ : S65) h6) (fun _ hk => hk)).1
 have hz : (0 : Int).toNat * (k65).sz + 0 = 0 := by simp
 rw [hz] at q
 exact q
theorem msg_put1 (h : Kd.R k65 65 w base ok (.slice (some ⟨g, 0, none⟩) 1 cap) [x]) (v : Int) : Kd.R k65 65 (w.setCell ⟨g, 1, none⟩ (.int .i64 v)) base ok (.slice (some ⟨g, 0, none⟩) 1 cap) [(⟨x.f0, v, x.f2, (⟨x.f3.f0, x.f3.f1⟩ : S37), x.f4, x.f5⟩ : S65)] := by
 obtain ⟨c, hcl, hM, hcc, hfr⟩ := Kd.R_elem h z65 0 (by decide) (by decide)
 have hM2 : Kd.M k65 w base (fun k => ok k ∧ k ≠ g) x c := hM
 obtain ⟨v6, rfl, h6⟩ := k65_openM hM2
 have q := (Kd.R_seg h 0 (by decide) (by decide) (seg := [.int .i64 v]) (j := 1) hcl hcc (show 2 ≤ 7 from by decide) (x' := (⟨x.f0, v, x.f2, (⟨x.f3.f0, x.f3.f1⟩ : S37), x.f4, x.f5⟩ : S65)) (k65_mkM _ _ _ (⟨x.f0, v, x.f2, (⟨x.f3.f0, x.f3.f1⟩ : S37), x.f4, x.f5⟩ : S65) h6) (fun _ hk => hk)).1
 have hz : (0 : Int).toNat * (k65).sz + 1 = 1 := by simp
 rw [hz] at q
 exact q
theorem msg_put2 (h : Kd.R k65 65 w base ok (.slice (some ⟨g, 0, none⟩) 1 cap) [x]) (v : Int) : Kd.R k65 65 (w.setCell ⟨g, 2, none⟩ (.int .i64 v)) base ok (.slice (some ⟨g, 0, none⟩) 1 cap) [(⟨x.f0, x.f1, v, (⟨x.f3.f0, x.f3.f1⟩ : S37), x.f4, x.f5⟩ : S65)] := by
 obtain ⟨c, hcl, hM, hcc, hfr⟩ := Kd.R_elem h z65 0 (by decide) (by decide)
 have hM2 : Kd.M k65 w base (fun k => ok k ∧ k ≠ g) x c := hM
 obtain ⟨v6, rfl, h6⟩ := k65_openM hM2
 have q := (Kd.R_seg h 0 (by decide) (by decide) (seg := [.int .i64 v]) (j := 2) hcl hcc (show 3 ≤ 7 from by decide) (x' := (⟨x.f0, x.f1, v, (⟨x.f3.f0, x.f3.f1⟩ : S37), x.f4, x.f5⟩ : S65)) (k65_mkM _ _ _ (⟨x.f0, x.f1, v, (⟨x.f3.f0, x.f3.f1⟩ : S37), x.f4, x.f5⟩ : S65) h6) (fun _ hk => hk)).1
 have hz : (0 : Int).toNat * (k65).sz + 2 = 2 := by simp
 rw [hz] at q
 exact q
theorem msg_put3 (h : Kd.R k65 65 w base ok (.slice (some ⟨g, 0, none⟩) 1 cap) [x]) (v : Int) : Kd.R k65 65 (w.setCell ⟨g, 3, none⟩ (.int .i64 v)) base ok (.slice (some ⟨g, 0, none⟩) 1 cap) [(⟨x.f0, x.f1, x.f2, (⟨v, x.f3.f1⟩ : S37), x.f4, x.f5⟩ : S65)] := by
 obtain ⟨c, hcl, hM, hcc, hfr⟩ := Kd.R_elem h z65 0 (by decide) (by decide)
 have hM2 : Kd.M k65 w base (fun k => ok k ∧ k ≠ g) x c := hM
 obtain ⟨v6, rfl, h6⟩ := k65_openM hM2
 have q := (Kd.R_seg h 0 (by decide) (by decide) (seg := [.int .i64 v]) (j := 3) hcl hcc (show 4 ≤ 7 from by decide) (x' := (⟨x.f0, x.f1, x.f2, (⟨v, x.f3.f1⟩ : S37), x.f4, x.f5⟩ : S65)) (k65_mkM _ _ _ (⟨x.f0, x.f1, x.f2, (⟨v, x.f3.f1⟩ : S37), x.f4, x.f5⟩ : S65) h6) (fun _ hk => hk)).1
 have hz : (0 : Int).toNat * (k65).sz + 3 = 3 := by simp
 rw [hz] at q
 exact q
theorem msg_put4 (h : Kd.R k65 65 w base ok (.slice (some ⟨g, 0, none⟩) 1 cap) [x]) (v : ByteArray) : Kd.R k65 65 (w.setCell ⟨g, 4, none⟩ (.string v)) base ok (.slice (some ⟨g, 0, none⟩) 1 cap) [(⟨x.f0, x.f1, x.f2, (⟨x.f3.f0, v⟩ : S37), x.f4, x.f5⟩ : S65)] := by
 obtain ⟨c, hcl, hM, hcc, hfr⟩ := Kd.R_elem h z65 0 (by decide) (by decide)
 have hM2 : Kd.M k65 w base (fun k => ok k ∧ k ≠ g) x c := hM
 obtain ⟨v6, rfl, h6⟩ := k65_openM hM2
 have q := (Kd.R_seg h 0 (by decide) (by decide) (seg := [.string v]) (j := 4) hcl hcc (show 5 ≤ 7 from by decide) (x' := (⟨x.f0, x.f1, x.f2, (⟨x.f3.f0, v⟩ : S37), x.f4, x.f5⟩ : S65)) (k65_mkM _ _ _ (⟨x.f0, x.f1, x.f2, (⟨x.f3.f0, v⟩ : S37), x.f4, x.f5⟩ : S65) h6) (fun _ hk => hk)).1
 have hz : (0 : Int).toNat * (k65).sz + 4 = 4 := by simp
 rw [hz] at q
 exact q
theorem msg_put5 (h : Kd.R k65 65 w base ok (.slice (some ⟨g, 0, none⟩) 1 cap) [x]) (v : Int) : Kd.R k65 65 (w.setCell ⟨g, 5, none⟩ (.int .i64 v)) base ok (.slice (some ⟨g, 0, none⟩) 1 cap) [(⟨x.f0, x.f1, x.f2, (⟨x.f3.f0, x.f3.f1⟩ : S37), v, x.f5⟩ : S65)] := by
 obtain ⟨c, hcl, hM, hcc, hfr⟩ := Kd.R_elem h z65 0 (by decide) (by decide)
 have hM2 : Kd.M k65 w base (fun k => ok k ∧ k ≠ g) x c := hM
 obtain ⟨v6, rfl, h6⟩ := k65_openM hM2
 have q := (Kd.R_seg h 0 (by decide) (by decide) (seg := [.int .i64 v]) (j := 5) hcl hcc (show 6 ≤ 7 from by decide) (x' := (⟨x.f0, x.f1, x.f2, (⟨x.f3.f0, x.f3.f1⟩ : S37), v, x.f5⟩ : S65)) (k65_mkM _ _ _ (⟨x.f0, x.f1, x.f2, (⟨x.f3.f0, x.f3.f1⟩ : S37), v, x.f5⟩ : S65) h6) (fun _ hk => hk)).1
 have hz : (0 : Int).toNat * (k65).sz + 5 = 5 := by simp
 rw [hz] at q
 exact q
theorem keep_put {w1 : World} (h : Kept w w1 (fun k_ => some k_ = (.slice (some ⟨g, 0, none⟩) 1 cap : Value).ownBlock)) (j : Nat) (v : Value) : Kept w (w1.setCell ⟨g, j, none⟩ v) (fun k_ => some k_ = (.slice (some ⟨g, 0, none⟩) 1 cap : Value).ownBlock) := Kept.setCell (p := ⟨g, j, none⟩) h (.inl rfl) v
end
set_option maxHeartbeats 8000000 in
set_option maxRecDepth 100000 in
theorem laws_markMsgS.calls (k : Nat) (P0_ : Nat → Prop) (u : Value) (l0 : List S65) (a1 : Int) (r1 : Int) (r2 : List S65) (w0 w : World) {ok : Nat → Prop} (hB : Below w0.heap.size w0 w) (ho : Kd.S k65 65 w w0.heap.size ok u l0) (h : laws_markMsgS.f k l0 a1 = some (r1, r2)) :
  Calls Tryz.prog 20 #[u, .int .i64 a1] w fun e w' => e = .returned (.int .i64 r1) ∧ Kd.S k65 65 w' w0.heap.size ok u r2 ∧ Below w0.heap.size w0 w' ∧ Kept w w' (fun k_ => some k_ = u.ownBlock) := by
 have hu65 := Tryz.underlying65
 have hu37 := Tryz.underlying37
 have HR := Aside0.mk (Kd.S_R ho)
 have HB := Aside0.mk hB
 have HKP := Aside0.mk (Kept.refl w (fun k_ => some k_ = u.ownBlock))
 unfold laws_markMsgS.f at h
 clear ho hB
 by_cases ha : a1 = 1
 case neg => rw [if_neg ha] at h; cases h
 case pos =>
 subst ha
 rw [if_pos rfl] at h
 by_cases h0 : l0.length = 0
 ·rw [if_pos h0] at h
  obtain ⟨rfl, rfl⟩ := so2_ h
  obtain rfl := List.length_eq_zero_iff.1 h0
  obtain ⟨A, c, eu⟩ := Kd.R_slice HR.out
  subst eu
  go_enter Tryz.func20, Tryz.ntmps20
  go_wp2
  go_loopg [1, 5] 0 (fun kq v1 v5 w' => v1 = .int .i64 1 ∧ v5 = .int .i64 0 ∧ Aside0 (Kd.R k65 65 w' w0.heap.size ok (.slice A 0 c) []) ∧ Aside0 (Below w0.heap.size w0 w') ∧ Aside0 (Kept w w' (fun k_ => some k_ = (Value.slice A 0 c).ownBlock)))
  case atStart => exact ⟨by first | rfl | assumption, by first | rfl | assumption, ⟨kr_ HR.out⟩, ⟨bw_ HB⟩, ⟨by repeat (first | exact HKP.out | apply Kept.alloc | apply Kept.drewN | apply Kept.drew)⟩⟩
  case round =>
   obtain ⟨rfl, rfl, HR, HB, HKP⟩ := hrel
   go_wp2
   go_ret
   exact ⟨rfl, S_one (kr_ HR.out) (by simp), bw_ HB, by repeat (first | exact HKP.out | apply Kept.alloc | apply Kept.drewN | apply Kept.drew)⟩
 ·rw [if_neg h0] at h
  by_cases h1 : l0.length = 1
  case neg => rw [if_neg h1] at h; cases h
  case pos =>
  rw [if_pos h1] at h
  obtain ⟨x, rfl⟩ := List.length_eq_one_iff.1 h1
  replace h : oneMsg k x = some (r1, r2) := h
  unfold oneMsg at h
  by_cases h5 : x.f5.length = 0
  case neg => rw [if_neg h5] at h; cases h
  case pos =>
  rw [if_pos h5] at h
  replace h := bi_ h; obtain ⟨t, AT, h⟩ := h
  obtain ⟨rfl, rfl⟩ := so2_ h
  have hx5 : x.f5 = [] := List.length_eq_zero_iff.1 h5
  obtain ⟨g, cap, eu, hg0, hg1, hg2⟩ := Kd.R_form HR.out (by simp)
  replace eu : u = .slice (some ⟨g, 0, none⟩) 1 cap := eu
  subst eu
  have GE := Aside0.mk hg0
  clear h h0 h1 hg0 hg1 hg2
  go_enter Tryz.func20, Tryz.ntmps20
  go_wp2
  go_loopg [1, 5] 1 (fun kq v1 v5 w' => ((kq = 1 ∧ v1 = .int .i64 1 ∧ v5 = .int .i64 0 ∧ Aside0 (Kd.R k65 65 w' w0.heap.size ok (.slice (some ⟨g, 0, none⟩) 1 cap) [x])) ∨ (kq = 0 ∧ v1 = .int .i64 7 ∧ v5 = .int .i64 1 ∧ Aside0 (Kd.R k65 65 w' w0.heap.size ok (.slice (some ⟨g, 0, none⟩) 1 cap) [(⟨1, 2, 3, (⟨4, t⟩ : S37), 6, ([] : List ByteArray)⟩ : S65)]))) ∧ Aside0 (Below w0.heap.size w0 w') ∧ Aside0 (Kept w w' (fun k_ => some k_ = (.slice (some ⟨g, 0, none⟩) 1 cap : Value).ownBlock)))
  case atStart => exact ⟨.inl ⟨rfl, by first | rfl | assumption, by first | rfl | assumption, ⟨kr_ HR.out⟩⟩, ⟨bw_ HB⟩, ⟨by repeat (first | exact HKP.out | apply Kept.alloc | apply Kept.drewN | apply Kept.drew)⟩⟩
  case round =>
   obtain ⟨⟨rfl, rfl, rfl, HR⟩ | ⟨rfl, rfl, rfl, HR⟩, HB, HKP⟩ := hrel
   ·obtain ⟨v6, hc, hf, h6⟩ := msg_cells HR.out
    clear h6
    go_wp2_with (first | ((with_reducible refine gq_ 48 44 ?_); refine gc_ 44 Tryz.func48 (laws_markText.calls k 5 t _ AT.out) ?_; rintro e w2 ⟨rfl, hb⟩; refine ⟨_, rfl, ?_⟩; have HR1 := Aside0.mk (Kd.R_below (msg_put3 (msg_put2 (msg_put1 (msg_put0 HR.out 1) 2) 3) 4) hb); replace HB := ss_ HB hb; replace HKP := Aside0.mk (Kept.below (keep_put (keep_put (keep_put (keep_put HKP.out 0 _) 1 _) 2 _) 3 _) hb); clear hb hc hf HR; obtain ⟨v6, hc, hf, h6⟩ := msg_cells HR1.out; obtain ⟨A6, c6, e6⟩ := Kd.R_slice h6; rw [show x.f5 = [] from hx5] at e6; replace e6 : v6 = .slice A6 0 c6 := e6; subst e6; clear h6) | ((with_reducible refine gq_ 49 63 ?_); refine gc_ 63 Tryz.func49 (mark_none A6 c6 7 _) ?_; rintro e w3 ⟨rfl, hb⟩; refine ⟨_, rfl, ?_⟩; have HR2 := Aside0.mk (Kd.R_below (msg_put5 (msg_put4 HR1.out t) 6) hb); replace HB := ss_ HB hb; replace HKP := Aside0.mk (Kept.below (keep_put (keep_put HKP.out 4 _) 5 _) hb); clear hb hc hf HR1))
    have HR3 : Aside0 (Kd.R k65 65 w3 w0.heap.size ok (.slice (some ⟨g, 0, none⟩) 1 cap) [(⟨1, 2, 3, (⟨4, t⟩ : S37), 6, ([] : List ByteArray)⟩ : S65)]) := ⟨by have q := HR2.out; rw [hx5] at q; exact q⟩
    go_roundg 0
    case measure => omega
    case rel => exact ⟨.inr ⟨rfl, by first | rfl | assumption, by first | rfl | assumption, ⟨kr_ HR3.out⟩⟩, ⟨bw_ HB⟩, ⟨by repeat (first | exact HKP.out | apply Kept.alloc | apply Kept.drewN | apply Kept.drew)⟩⟩
   ·go_wp2
    go_ret
    exact ⟨rfl, S_one (kr_ HR.out) (by simp), bw_ HB, by repeat (first | exact HKP.out | apply Kept.alloc | apply Kept.drewN | apply Kept.drew)⟩
end Go.Proofs.YtnlndmoecljicaaGreat.Q
end

-- Joined and shortened by a program of this session (wip/tools/shakecopy.py): the words of the print, texts of pp.sh and of mine.
import Derived.Test.YtjnnglphdaemaaaKFnExtended4
section
-- Written by a program of this session (wip/tools/pp.sh) over the print of the kit.
namespace Go.Proofs.Ytjnnglphdaemaaa.Q
open Go.RowKit Go.Proofs.YtjnnglphdaemaaaW.PrintWords Go.Proofs.YtjnnglphdaemaaaW.PrintLast Go.Proofs.YtjnnglphdaemaaaW.PrintMore
attribute [local go_sem] max2_int min2_int max_two min_two max_three min_three max_four min_four   -- for this text's walks alone
set_option linter.unusedVariables false
set_option linter.unusedSimpArgs false
theorem bs4_ {w w1 w2 : World} {g1 g2 g3 g4 : Nat} (h : Aside0 (Below w.heap.size w w1)) (e1 : w.heap.size ≤ g1) (e2 : w.heap.size ≤ g2) (e3 : w.heap.size ≤ g3) (e4 : w.heap.size ≤ g4) (g : Below w.heap.size w w1 → w.heap.size ≤ g1 → w.heap.size ≤ g2 → w.heap.size ≤ g3 → w.heap.size ≤ g4 → Below w.heap.size w w2 := by intro h_ e1_ e2_ e3_ e4_; repeat (first | (with_reducible first | exact h_ | apply below_alloc | apply pw_below_drewN | apply below_drew1 | refine below_set ?_ e1_ | refine below_set ?_ e2_ | refine below_set ?_ e3_ | refine below_set ?_ e4_) | exact h_)) : Below w.heap.size w w2 := g h.out e1 e2 e3 e4
theorem bs5_ {w w1 w2 : World} {g1 g2 g3 g4 g5 : Nat} (h : Aside0 (Below w.heap.size w w1)) (e1 : w.heap.size ≤ g1) (e2 : w.heap.size ≤ g2) (e3 : w.heap.size ≤ g3) (e4 : w.heap.size ≤ g4) (e5 : w.heap.size ≤ g5) (g : Below w.heap.size w w1 → w.heap.size ≤ g1 → w.heap.size ≤ g2 → w.heap.size ≤ g3 → w.heap.size ≤ g4 → w.heap.size ≤ g5 → Below w.heap.size w w2 := by intro h_ e1_ e2_ e3_ e4_ e5_; repeat (first | (with_reducible first | exact h_ | apply below_alloc | apply pw_below_drewN | apply below_drew1 | refine below_set ?_ e1_ | refine below_set ?_ e2_ | refine below_set ?_ e3_ | refine below_set ?_ e4_ | refine below_set ?_ e5_) | exact h_)) : Below w.heap.size w w2 := g h.out e1 e2 e3 e4 e5
theorem in2x_ {w w1 w2 : World} {g : Nat} {s : List Int} {a b : Int} {g1 g2 : Nat} (h : Aside0 (IsS111 w w1 g s a b)) (n1 : Aside0 (g ≠ g1)) (n2 : Aside0 (g ≠ g2)) (f : IsS111 w w1 g s a b → g ≠ g1 → g ≠ g2 → IsS111 w w2 g s a b := by intro h_ n1_ n2_; repeat (first | (with_reducible first | exact h_ | apply IsS111.alloc | apply IsS111.drewN | apply IsS111.drew | apply IsS111.set_1 | apply IsS111.set_2 | refine IsS111.far ?_ n1_ _ | refine IsS111.far ?_ n2_ _) | exact h_)) : IsS111 w w2 g s a b := f h.out n1.out n2.out
theorem in3x_ {w w1 w2 : World} {g : Nat} {s : List Int} {a b : Int} {g1 g2 g3 : Nat} (h : Aside0 (IsS111 w w1 g s a b)) (n1 : Aside0 (g ≠ g1)) (n2 : Aside0 (g ≠ g2)) (n3 : Aside0 (g ≠ g3)) (f : IsS111 w w1 g s a b → g ≠ g1 → g ≠ g2 → g ≠ g3 → IsS111 w w2 g s a b := by intro h_ n1_ n2_ n3_; repeat (first | (with_reducible first | exact h_ | apply IsS111.alloc | apply IsS111.drewN | apply IsS111.drew | apply IsS111.set_1 | apply IsS111.set_2 | refine IsS111.far ?_ n1_ _ | refine IsS111.far ?_ n2_ _ | refine IsS111.far ?_ n3_ _) | exact h_)) : IsS111 w w2 g s a b := f h.out n1.out n2.out n3.out
theorem in4x_ {w w1 w2 : World} {g : Nat} {s : List Int} {a b : Int} {g1 g2 g3 g4 : Nat} (h : Aside0 (IsS111 w w1 g s a b)) (n1 : Aside0 (g ≠ g1)) (n2 : Aside0 (g ≠ g2)) (n3 : Aside0 (g ≠ g3)) (n4 : Aside0 (g ≠ g4)) (f : IsS111 w w1 g s a b → g ≠ g1 → g ≠ g2 → g ≠ g3 → g ≠ g4 → IsS111 w w2 g s a b := by intro h_ n1_ n2_ n3_ n4_; repeat (first | (with_reducible first | exact h_ | apply IsS111.alloc | apply IsS111.drewN | apply IsS111.drew | apply IsS111.set_1 | apply IsS111.set_2 | refine IsS111.far ?_ n1_ _ | refine IsS111.far ?_ n2_ _ | refine IsS111.far ?_ n3_ _ | refine IsS111.far ?_ n4_ _) | exact h_)) : IsS111 w w2 g s a b := f h.out n1.out n2.out n3.out n4.out
def spec_DrawExtend.f (k : Nat) (l0 : List Int) : Option (List ByteArray × Int × ByteArray × (List (S28)) × Int × ByteArray × List ByteArray) := (spec_l1New.f k l0).bind fun bt603 => ((spec_l6List.f k bt603.1 bt603.2.1 bt603.2.2).bind fun bt607 => (if bt607.1.length < 8796093022208 then ((some (bt607.1 ++ [(⟨#[113]⟩ : ByteArray)] : List ByteArray)).bind fun y612 => ((spec_l1Below.f bt603.1 bt607.2.1 bt607.2.2 (y612.length : Int)).bind fun bt615 => ((some (([] : List ByteArray) : List ByteArray)).bind fun y618 => (if 0 ≤ bt615.1 then (if bt615.1 ≤ (y612.length : Int) then ((some (y612.take (bt615.1 : Int).toNat : List ByteArray)).bind fun y621 => (if y618.length + y621.length < 8796093022208 then ((spec_l11Log.f k (y618 ++ y621)).bind fun bt628 => ((spec_l10Table.f k bt603.1 bt615.2.1 bt615.2.2 y612).bind fun bt634 => ((spec_l1Below.f bt603.1 bt634.2.1 bt634.2.2 (wrap64 ((y612.length : Int) - bt615.1))).bind fun bt639 => (if 0 ≤ (wrap64 ((wrap64 (bt615.1 + 1)) + bt639.1)) then (if (wrap64 ((wrap64 (bt615.1 + 1)) + bt639.1)) ≤ (y612.length : Int) then ((spec_HeadOf.f k (y612.take ((wrap64 ((wrap64 (bt615.1 + 1)) + bt639.1)) : Int).toNat)).bind fun bt646 => ((some (([] : List ByteArray) : List ByteArray)).bind fun y649 => (if bt615.1 ≤ (wrap64 ((wrap64 (bt615.1 + 1)) + bt639.1)) then ((some ((y612.take ((wrap64 ((wrap64 (bt615.1 + 1)) + bt639.1)) : Int).toNat).drop (bt615.1 : Int).toNat : List ByteArray)).bind fun y652 => (if y649.length + y652.length < 8796093022208 then ((some (y649 ++ y652 : List ByteArray)).bind fun y656 => ((spec_l1Below.f bt603.1 bt639.2.1 bt639.2.2 8).bind fun bt659 => (if bt659.1 = 0 then ((spec_l11Any.f k bt603.1 bt659.2.1 bt659.2.2).bind fun bt662 => ((spec_l1Once.f bt603.1 bt662.2.2.2.1 bt662.2.2.2.2 3).bind fun bt669 => (if bt669.1 = true then (some (bt662.1, bt662.2.1, bt662.2.2.1, bt634.1, bt646.1, bt646.2, y656)) else (if bt634.1.length < 5864062014805 then (some (bt662.1, bt662.2.1, bt662.2.2.1, (bt634.1 ++ [(⟨bt646.1, bt646.2⟩ : S28)]), bt646.1, bt646.2, y656)) else (none))))) else (if bt659.1 = 1 then (if 0 < (y656.length : Int) then ((some (y656.set (0 : Int).toNat (⟨#[98, 101, 110, 116]⟩ : ByteArray) : List ByteArray)).bind fun y675 => ((spec_l1Once.f bt603.1 bt659.2.1 bt659.2.2 3).bind fun bt676 => (if bt676.1 = true then (some (bt628.1, bt628.2.1, bt628.2.2, bt634.1, bt646.1, bt646.2, y675)) else (if bt634.1.length < 5864062014805 then (some (bt628.1, bt628.2.1, bt628.2.2, (bt634.1 ++ [(⟨bt646.1, bt646.2⟩ : S28)]), bt646.1, bt646.2, y675)) else (none))))) else (none)) else (if bt659.1 = 2 then ((spec_l10Any.f k bt603.1 bt659.2.1 bt659.2.2).bind fun bt682 => (if 0 < (bt682.1.length : Int) then ((spec_l1Once.f bt603.1 bt682.2.1 bt682.2.2 3).bind fun bt688 => (if bt688.1 = true then (some (bt628.1, bt628.2.1, bt628.2.2, bt634.1, (rd_T28 bt682.1 0).f0, (rd_T28 bt682.1 0).f1, y656)) else (if bt634.1.length < 5864062014805 then (some (bt628.1, bt628.2.1, bt628.2.2, (bt634.1 ++ [(⟨(rd_T28 bt682.1 0).f0, (rd_T28 bt682.1 0).f1⟩ : S28)]), (rd_T28 bt682.1 0).f0, (rd_T28 bt682.1 0).f1, y656)) else (none)))) else (none))) else (if bt659.1 = 3 then ((some (([] : List ByteArray) : List ByteArray)).bind fun y694 => ((spec_l1Once.f bt603.1 bt659.2.1 bt659.2.2 3).bind fun bt697 => (if bt697.1 = true then (some (bt628.1, bt628.2.1, bt628.2.2, bt634.1, bt628.2.1, bt628.2.2, y694)) else (if bt634.1.length < 5864062014805 then (some (bt628.1, bt628.2.1, bt628.2.2, (bt634.1 ++ [(⟨bt628.2.1, bt628.2.2⟩ : S28)]), bt628.2.1, bt628.2.2, y694)) else (none))))) else (if bt659.1 = 4 then ((spec_l10Any.f k bt603.1 bt659.2.1 bt659.2.2).bind fun bt703 => ((spec_l1Once.f bt603.1 bt703.2.1 bt703.2.2 3).bind fun bt708 => (if bt708.1 = true then (some (bt628.1, bt628.2.1, bt628.2.2, bt703.1, bt646.1, bt646.2, y656)) else (if bt703.1.length < 5864062014805 then (some (bt628.1, bt628.2.1, bt628.2.2, (bt703.1 ++ [(⟨bt646.1, bt646.2⟩ : S28)]), bt646.1, bt646.2, y656)) else (none))))) else (if bt659.1 = 5 then (if bt634.1.length < 5864062014805 then ((some (bt634.1 ++ [(⟨bt646.1, bt646.2⟩ : S28)] : List (S28))).bind fun y714 => (if 0 ≤ (wrap64 ((y656.length : Int) - 1)) then (if (wrap64 ((y656.length : Int) - 1)) < (y656.length : Int) then ((some (y656.set ((wrap64 ((y656.length : Int) - 1)) : Int).toNat (⟨#[98, 101, 110, 116]⟩ : ByteArray) : List ByteArray)).bind fun y717 => ((spec_l1Once.f bt603.1 bt659.2.1 bt659.2.2 3).bind fun bt718 => (if bt718.1 = true then (some (bt628.1, bt628.2.1, bt628.2.2, y714, bt646.1, bt646.2, y717)) else (if y714.length < 5864062014805 then (some (bt628.1, bt628.2.1, bt628.2.2, (y714 ++ [(⟨bt646.1, bt646.2⟩ : S28)]), bt646.1, bt646.2, y717)) else (none))))) else (none)) else (none))) else (none)) else ((spec_l1Once.f bt603.1 bt659.2.1 bt659.2.2 3).bind fun bt724 => (if bt724.1 = true then (some (bt628.1, bt628.2.1, bt628.2.2, bt634.1, bt646.1, bt646.2, y656)) else (if bt634.1.length < 5864062014805 then (some (bt628.1, bt628.2.1, bt628.2.2, (bt634.1 ++ [(⟨bt646.1, bt646.2⟩ : S28)]), bt646.1, bt646.2, y656)) else (none)))))))))))) else (none))) else (none)))) else (none)) else (none))))) else (none))) else (none)) else (none))))) else (none)))
def spec_DrawExtend.T26 : Bool × List (List Nat × List Nat) := (true, [([], []), ([], []), ([], []), ([], []), ([0, 0], [0]), ([1, 4, 0, 1, 4], [1]), ([2, 5, 0, 1, 2, 4, 5], [2]), ([3, 6, 0, 1, 2, 3, 4, 5, 6], [3])])
def spec_DrawExtend.B26 : List Nat := [0, 0, 0, 0, 1, 19, 55, 127]
theorem spec_DrawExtend.tab26 : rtab .any (opsOf Try.f20 26) = spec_DrawExtend.T26 := by kernel_rfl
theorem spec_DrawExtend.bits26 : waitsOk spec_DrawExtend.T26.2 spec_DrawExtend.B26 = true := by kernel_rfl
set_option maxHeartbeats 8000000 in
set_option maxRecDepth 100000 in
theorem spec_DrawExtend.calls (k : Nat) (A0 : Option Addr) (c0 : Nat) (l0 : List Int) (r1 : List ByteArray) (r2 : Int) (r3 : ByteArray) (r4 : List (S28)) (r5 : Int) (r6 : ByteArray) (r7 : List ByteArray) (w : World) (hr0 : Kd.C (Kd.int .u8) w A0 l0.length l0) (hc0 : l0.length ≤ c0) (h : spec_DrawExtend.f k l0 = some (r1, r2, r3, r4, r5, r6, r7)) :
  Calls Try.prog 20 #[.slice A0 l0.length c0] w fun e w' => ∃ v0_ v3_ v6_ : Value, e = .returned (.tuple #[.agg #[v0_, .int .i64 r2, .string r3], v3_, .agg #[.int .i64 r5, .string r6], v6_]) ∧ Kd.R Kd.string 9 w' w.heap.size (fun k_ => some k_ ≠ (v6_ : Value).ownBlock) v0_ r1 ∧ Kd.R k28 28 w' w.heap.size (fun _ => True) v3_ r4 ∧ Kd.R Kd.string 9 w' w.heap.size (fun k_ => some k_ ≠ (v0_ : Value).ownBlock) v6_ r7 ∧ Below w.heap.size w w' := by
 have hu31 := Try.underlying31
 have hu28 := Try.underlying28
 have HR0 := Aside0.mk hr0
 have HC0 := Aside0.mk hc0
 clear hr0 hc0
 have HB := Aside0.mk (Below.refl w.heap.size w)
 have H : ((spec_l1New.f k l0).bind fun bt603 => ((spec_l6List.f k bt603.1 bt603.2.1 bt603.2.2).bind fun bt607 => (if bt607.1.length < 8796093022208 then ((some (bt607.1 ++ [(⟨#[113]⟩ : ByteArray)] : List ByteArray)).bind fun y612 => ((spec_l1Below.f bt603.1 bt607.2.1 bt607.2.2 (y612.length : Int)).bind fun bt615 => ((some (([] : List ByteArray) : List ByteArray)).bind fun y618 => (if 0 ≤ bt615.1 then (if bt615.1 ≤ (y612.length : Int) then ((some (y612.take (bt615.1 : Int).toNat : List ByteArray)).bind fun y621 => (if y618.length + y621.length < 8796093022208 then ((spec_l11Log.f k (y618 ++ y621)).bind fun bt628 => ((spec_l10Table.f k bt603.1 bt615.2.1 bt615.2.2 y612).bind fun bt634 => ((spec_l1Below.f bt603.1 bt634.2.1 bt634.2.2 (wrap64 ((y612.length : Int) - bt615.1))).bind fun bt639 => (if 0 ≤ (wrap64 ((wrap64 (bt615.1 + 1)) + bt639.1)) then (if (wrap64 ((wrap64 (bt615.1 + 1)) + bt639.1)) ≤ (y612.length : Int) then ((spec_HeadOf.f k (y612.take ((wrap64 ((wrap64 (bt615.1 + 1)) + bt639.1)) : Int).toNat)).bind fun bt646 => ((some (([] : List ByteArray) : List ByteArray)).bind fun y649 => (if bt615.1 ≤ (wrap64 ((wrap64 (bt615.1 + 1)) + bt639.1)) then ((some ((y612.take ((wrap64 ((wrap64 (bt615.1 + 1)) + bt639.1)) : Int).toNat).drop (bt615.1 : Int).toNat : List ByteArray)).bind fun y652 => (if y649.length + y652.length < 8796093022208 then ((some (y649 ++ y652 : List ByteArray)).bind fun y656 => ((spec_l1Below.f bt603.1 bt639.2.1 bt639.2.2 8).bind fun bt659 => (if bt659.1 = 0 then ((spec_l11Any.f k bt603.1 bt659.2.1 bt659.2.2).bind fun bt662 => ((spec_l1Once.f bt603.1 bt662.2.2.2.1 bt662.2.2.2.2 3).bind fun bt669 => (if bt669.1 = true then (some (bt662.1, bt662.2.1, bt662.2.2.1, bt634.1, bt646.1, bt646.2, y656)) else (if bt634.1.length < 5864062014805 then (some (bt662.1, bt662.2.1, bt662.2.2.1, (bt634.1 ++ [(⟨bt646.1, bt646.2⟩ : S28)]), bt646.1, bt646.2, y656)) else (none))))) else (if bt659.1 = 1 then (if 0 < (y656.length : Int) then ((some (y656.set (0 : Int).toNat (⟨#[98, 101, 110, 116]⟩ : ByteArray) : List ByteArray)).bind fun y675 => ((spec_l1Once.f bt603.1 bt659.2.1 bt659.2.2 3).bind fun bt676 => (if bt676.1 = true then (some (bt628.1, bt628.2.1, bt628.2.2, bt634.1, bt646.1, bt646.2, y675)) else (if bt634.1.length < 5864062014805 then (some (bt628.1, bt628.2.1, bt628.2.2, (bt634.1 ++ [(⟨bt646.1, bt646.2⟩ : S28)]), bt646.1, bt646.2, y675)) else (none))))) else (none)) else (if bt659.1 = 2 then ((spec_l10Any.f k bt603.1 bt659.2.1 bt659.2.2).bind fun bt682 => (if 0 < (bt682.1.length : Int) then ((spec_l1Once.f bt603.1 bt682.2.1 bt682.2.2 3).bind fun bt688 => (if bt688.1 = true then (some (bt628.1, bt628.2.1, bt628.2.2, bt634.1, (rd_T28 bt682.1 0).f0, (rd_T28 bt682.1 0).f1, y656)) else (if bt634.1.length < 5864062014805 then (some (bt628.1, bt628.2.1, bt628.2.2, (bt634.1 ++ [(⟨(rd_T28 bt682.1 0).f0, (rd_T28 bt682.1 0).f1⟩ : S28)]), (rd_T28 bt682.1 0).f0, (rd_T28 bt682.1 0).f1, y656)) else (none)))) else (none))) else (if bt659.1 = 3 then ((some (([] : List ByteArray) : List ByteArray)).bind fun y694 => ((spec_l1Once.f bt603.1 bt659.2.1 bt659.2.2 3).bind fun bt697 => (if bt697.1 = true then (some (bt628.1, bt628.2.1, bt628.2.2, bt634.1, bt628.2.1, bt628.2.2, y694)) else (if bt634.1.length < 5864062014805 then (some (bt628.1, bt628.2.1, bt628.2.2, (bt634.1 ++ [(⟨bt628.2.1, bt628.2.2⟩ : S28)]), bt628.2.1, bt628.2.2, y694)) else (none))))) else (if bt659.1 = 4 then ((spec_l10Any.f k bt603.1 bt659.2.1 bt659.2.2).bind fun bt703 => ((spec_l1Once.f bt603.1 bt703.2.1 bt703.2.2 3).bind fun bt708 => (if bt708.1 = true then (some (bt628.1, bt628.2.1, bt628.2.2, bt703.1, bt646.1, bt646.2, y656)) else (if bt703.1.length < 5864062014805 then (some (bt628.1, bt628.2.1, bt628.2.2, (bt703.1 ++ [(⟨bt646.1, bt646.2⟩ : S28)]), bt646.1, bt646.2, y656)) else (none))))) else (if bt659.1 = 5 then (if bt634.1.length < 5864062014805 then ((some (bt634.1 ++ [(⟨bt646.1, bt646.2⟩ : S28)] : List (S28))).bind fun y714 => (if 0 ≤ (wrap64 ((y656.length : Int) - 1)) then (if (wrap64 ((y656.length : Int) - 1)) < (y656.length : Int) then ((some (y656.set ((wrap64 ((y656.length : Int) - 1)) : Int).toNat (⟨#[98, 101, 110, 116]⟩ : ByteArray) : List ByteArray)).bind fun y717 => ((spec_l1Once.f bt603.1 bt659.2.1 bt659.2.2 3).bind fun bt718 => (if bt718.1 = true then (some (bt628.1, bt628.2.1, bt628.2.2, y714, bt646.1, bt646.2, y717)) else (if y714.length < 5864062014805 then (some (bt628.1, bt628.2.1, bt628.2.2, (y714 ++ [(⟨bt646.1, bt646.2⟩ : S28)]), bt646.1, bt646.2, y717)) else (none))))) else (none)) else (none))) else (none)) else ((spec_l1Once.f bt603.1 bt659.2.1 bt659.2.2 3).bind fun bt724 => (if bt724.1 = true then (some (bt628.1, bt628.2.1, bt628.2.2, bt634.1, bt646.1, bt646.2, y656)) else (if bt634.1.length < 5864062014805 then (some (bt628.1, bt628.2.1, bt628.2.2, (bt634.1 ++ [(⟨bt646.1, bt646.2⟩ : S28)]), bt646.1, bt646.2, y656)) else (none)))))))))))) else (none))) else (none)))) else (none)) else (none))))) else (none))) else (none)) else (none))))) else (none)))) = some (r1, r2, r3, r4, r5, r6, r7) := h
 clear h
 replace H := bi_ H; obtain ⟨⟨t603, t604, t605⟩, A2, H⟩ := H
 dsimp only at H
 replace H := bi_ H; obtain ⟨⟨t607, t610, t611⟩, A3, H⟩ := H
 dsimp only at H
 replace H := ip_ H; obtain ⟨c4, H⟩ := H
 have LMc4 := Aside0.mk c4
 clear c4
 obtain ⟨y612, Ny612, H⟩ := sb_ (t607 ++ [(⟨#[113]⟩ : ByteArray)]) H
 replace H := bi_ H; obtain ⟨⟨t615, t616, t617⟩, A5, H⟩ := H
 dsimp only at H
 obtain ⟨y618, Ny618, H⟩ := sb_ (([] : List ByteArray)) H
 replace H := ip_ H; obtain ⟨c6, H⟩ := H
 have c6b0 := eq_true c6
 have c6b1 := decide_eq_true c6
 clear c6
 replace H := ip_ H; obtain ⟨c7, H⟩ := H
 have c7b0 := eq_true c7
 have c7b1 := decide_eq_true c7
 clear c7
 obtain ⟨y621, Ny621, H⟩ := sb_ (y612.take (t615 : Int).toNat) H
 replace H := ip_ H; obtain ⟨c8, H⟩ := H
 have LMc8 := Aside0.mk c8
 clear c8
 obtain ⟨y625, hy625⟩ : ∃ y_ : List ByteArray, y_ = (y618 ++ y621) := ⟨_, rfl⟩
 replace H : ((spec_l11Log.f k y625).bind fun bt628 => ((spec_l10Table.f k t603 t616 t617 y612).bind fun bt634 => ((spec_l1Below.f t603 bt634.2.1 bt634.2.2 (wrap64 ((y612.length : Int) - t615))).bind fun bt639 => (if 0 ≤ (wrap64 ((wrap64 (t615 + 1)) + bt639.1)) then (if (wrap64 ((wrap64 (t615 + 1)) + bt639.1)) ≤ (y612.length : Int) then ((spec_HeadOf.f k (y612.take ((wrap64 ((wrap64 (t615 + 1)) + bt639.1)) : Int).toNat)).bind fun bt646 => ((some (([] : List ByteArray) : List ByteArray)).bind fun y649 => (if t615 ≤ (wrap64 ((wrap64 (t615 + 1)) + bt639.1)) then ((some ((y612.take ((wrap64 ((wrap64 (t615 + 1)) + bt639.1)) : Int).toNat).drop (t615 : Int).toNat : List ByteArray)).bind fun y652 => (if y649.length + y652.length < 8796093022208 then ((some (y649 ++ y652 : List ByteArray)).bind fun y656 => ((spec_l1Below.f t603 bt639.2.1 bt639.2.2 8).bind fun bt659 => (if bt659.1 = 0 then ((spec_l11Any.f k t603 bt659.2.1 bt659.2.2).bind fun bt662 => ((spec_l1Once.f t603 bt662.2.2.2.1 bt662.2.2.2.2 3).bind fun bt669 => (if bt669.1 = true then (some (bt662.1, bt662.2.1, bt662.2.2.1, bt634.1, bt646.1, bt646.2, y656)) else (if bt634.1.length < 5864062014805 then (some (bt662.1, bt662.2.1, bt662.2.2.1, (bt634.1 ++ [(⟨bt646.1, bt646.2⟩ : S28)]), bt646.1, bt646.2, y656)) else (none))))) else (if bt659.1 = 1 then (if 0 < (y656.length : Int) then ((some (y656.set (0 : Int).toNat (⟨#[98, 101, 110, 116]⟩ : ByteArray) : List ByteArray)).bind fun y675 => ((spec_l1Once.f t603 bt659.2.1 bt659.2.2 3).bind fun bt676 => (if bt676.1 = true then (some (bt628.1, bt628.2.1, bt628.2.2, bt634.1, bt646.1, bt646.2, y675)) else (if bt634.1.length < 5864062014805 then (some (bt628.1, bt628.2.1, bt628.2.2, (bt634.1 ++ [(⟨bt646.1, bt646.2⟩ : S28)]), bt646.1, bt646.2, y675)) else (none))))) else (none)) else (if bt659.1 = 2 then ((spec_l10Any.f k t603 bt659.2.1 bt659.2.2).bind fun bt682 => (if 0 < (bt682.1.length : Int) then ((spec_l1Once.f t603 bt682.2.1 bt682.2.2 3).bind fun bt688 => (if bt688.1 = true then (some (bt628.1, bt628.2.1, bt628.2.2, bt634.1, (rd_T28 bt682.1 0).f0, (rd_T28 bt682.1 0).f1, y656)) else (if bt634.1.length < 5864062014805 then (some (bt628.1, bt628.2.1, bt628.2.2, (bt634.1 ++ [(⟨(rd_T28 bt682.1 0).f0, (rd_T28 bt682.1 0).f1⟩ : S28)]), (rd_T28 bt682.1 0).f0, (rd_T28 bt682.1 0).f1, y656)) else (none)))) else (none))) else (if bt659.1 = 3 then ((some (([] : List ByteArray) : List ByteArray)).bind fun y694 => ((spec_l1Once.f t603 bt659.2.1 bt659.2.2 3).bind fun bt697 => (if bt697.1 = true then (some (bt628.1, bt628.2.1, bt628.2.2, bt634.1, bt628.2.1, bt628.2.2, y694)) else (if bt634.1.length < 5864062014805 then (some (bt628.1, bt628.2.1, bt628.2.2, (bt634.1 ++ [(⟨bt628.2.1, bt628.2.2⟩ : S28)]), bt628.2.1, bt628.2.2, y694)) else (none))))) else (if bt659.1 = 4 then ((spec_l10Any.f k t603 bt659.2.1 bt659.2.2).bind fun bt703 => ((spec_l1Once.f t603 bt703.2.1 bt703.2.2 3).bind fun bt708 => (if bt708.1 = true then (some (bt628.1, bt628.2.1, bt628.2.2, bt703.1, bt646.1, bt646.2, y656)) else (if bt703.1.length < 5864062014805 then (some (bt628.1, bt628.2.1, bt628.2.2, (bt703.1 ++ [(⟨bt646.1, bt646.2⟩ : S28)]), bt646.1, bt646.2, y656)) else (none))))) else (if bt659.1 = 5 then (if bt634.1.length < 5864062014805 then ((some (bt634.1 ++ [(⟨bt646.1, bt646.2⟩ : S28)] : List (S28))).bind fun y714 => (if 0 ≤ (wrap64 ((y656.length : Int) - 1)) then (if (wrap64 ((y656.length : Int) - 1)) < (y656.length : Int) then ((some (y656.set ((wrap64 ((y656.length : Int) - 1)) : Int).toNat (⟨#[98, 101, 110, 116]⟩ : ByteArray) : List ByteArray)).bind fun y717 => ((spec_l1Once.f t603 bt659.2.1 bt659.2.2 3).bind fun bt718 => (if bt718.1 = true then (some (bt628.1, bt628.2.1, bt628.2.2, y714, bt646.1, bt646.2, y717)) else (if y714.length < 5864062014805 then (some (bt628.1, bt628.2.1, bt628.2.2, (y714 ++ [(⟨bt646.1, bt646.2⟩ : S28)]), bt646.1, bt646.2, y717)) else (none))))) else (none)) else (none))) else (none)) else ((spec_l1Once.f t603 bt659.2.1 bt659.2.2 3).bind fun bt724 => (if bt724.1 = true then (some (bt628.1, bt628.2.1, bt628.2.2, bt634.1, bt646.1, bt646.2, y656)) else (if bt634.1.length < 5864062014805 then (some (bt628.1, bt628.2.1, bt628.2.2, (bt634.1 ++ [(⟨bt646.1, bt646.2⟩ : S28)]), bt646.1, bt646.2, y656)) else (none)))))))))))) else (none))) else (none)))) else (none)) else (none))))) = some (r1, r2, r3, r4, r5, r6, r7) := yh_ hy625 H
 have Ny625 := Aside0.mk hy625
 clear hy625
 replace H := bi_ H; obtain ⟨⟨t628, t631, t632⟩, A9, H⟩ := H
 dsimp only at H
 replace H := bi_ H; obtain ⟨⟨t634, t637, t638⟩, A10, H⟩ := H
 dsimp only at H
 replace H := bi_ H; obtain ⟨⟨t639, t640, t641⟩, A11, H⟩ := H
 dsimp only at H
 generalize hji12 : (wrap64 ((wrap64 (t615 + 1)) + t639)) = ji12 at H
 (try rw [hji12] at A2)
 (try rw [hji12] at A3)
 (try rw [hji12] at A5)
 (try rw [hji12] at A9)
 (try rw [hji12] at A10)
 (try rw [hji12] at A11)
 have hji12w : (IntKind.i64.wrap ((wrap64 (t615 + 1)) + t639)) = ji12 := (i64_w _).trans hji12
 replace H := ip_ H; obtain ⟨c13, H⟩ := H
 have c13b0 := eq_true c13
 have c13b1 := decide_eq_true c13
 clear c13
 replace H := ip_ H; obtain ⟨c14, H⟩ := H
 have c14b0 := eq_true c14
 have c14b1 := decide_eq_true c14
 clear c14
 obtain ⟨y642, hy642⟩ : ∃ y_ : List ByteArray, y_ = (y612.take ((ji12) : Int).toNat) := ⟨_, rfl⟩
 replace H : ((spec_HeadOf.f k y642).bind fun bt646 => ((some (([] : List ByteArray) : List ByteArray)).bind fun y649 => (if t615 ≤ (ji12) then ((some ((y612.take ((ji12) : Int).toNat).drop (t615 : Int).toNat : List ByteArray)).bind fun y652 => (if y649.length + y652.length < 8796093022208 then ((some (y649 ++ y652 : List ByteArray)).bind fun y656 => ((spec_l1Below.f t603 t640 t641 8).bind fun bt659 => (if bt659.1 = 0 then ((spec_l11Any.f k t603 bt659.2.1 bt659.2.2).bind fun bt662 => ((spec_l1Once.f t603 bt662.2.2.2.1 bt662.2.2.2.2 3).bind fun bt669 => (if bt669.1 = true then (some (bt662.1, bt662.2.1, bt662.2.2.1, t634, bt646.1, bt646.2, y656)) else (if t634.length < 5864062014805 then (some (bt662.1, bt662.2.1, bt662.2.2.1, (t634 ++ [(⟨bt646.1, bt646.2⟩ : S28)]), bt646.1, bt646.2, y656)) else (none))))) else (if bt659.1 = 1 then (if 0 < (y656.length : Int) then ((some (y656.set (0 : Int).toNat (⟨#[98, 101, 110, 116]⟩ : ByteArray) : List ByteArray)).bind fun y675 => ((spec_l1Once.f t603 bt659.2.1 bt659.2.2 3).bind fun bt676 => (if bt676.1 = true then (some (t628, t631, t632, t634, bt646.1, bt646.2, y675)) else (if t634.length < 5864062014805 then (some (t628, t631, t632, (t634 ++ [(⟨bt646.1, bt646.2⟩ : S28)]), bt646.1, bt646.2, y675)) else (none))))) else (none)) else (if bt659.1 = 2 then ((spec_l10Any.f k t603 bt659.2.1 bt659.2.2).bind fun bt682 => (if 0 < (bt682.1.length : Int) then ((spec_l1Once.f t603 bt682.2.1 bt682.2.2 3).bind fun bt688 => (if bt688.1 = true then (some (t628, t631, t632, t634, (rd_T28 bt682.1 0).f0, (rd_T28 bt682.1 0).f1, y656)) else (if t634.length < 5864062014805 then (some (t628, t631, t632, (t634 ++ [(⟨(rd_T28 bt682.1 0).f0, (rd_T28 bt682.1 0).f1⟩ : S28)]), (rd_T28 bt682.1 0).f0, (rd_T28 bt682.1 0).f1, y656)) else (none)))) else (none))) else (if bt659.1 = 3 then ((some (([] : List ByteArray) : List ByteArray)).bind fun y694 => ((spec_l1Once.f t603 bt659.2.1 bt659.2.2 3).bind fun bt697 => (if bt697.1 = true then (some (t628, t631, t632, t634, t631, t632, y694)) else (if t634.length < 5864062014805 then (some (t628, t631, t632, (t634 ++ [(⟨t631, t632⟩ : S28)]), t631, t632, y694)) else (none))))) else (if bt659.1 = 4 then ((spec_l10Any.f k t603 bt659.2.1 bt659.2.2).bind fun bt703 => ((spec_l1Once.f t603 bt703.2.1 bt703.2.2 3).bind fun bt708 => (if bt708.1 = true then (some (t628, t631, t632, bt703.1, bt646.1, bt646.2, y656)) else (if bt703.1.length < 5864062014805 then (some (t628, t631, t632, (bt703.1 ++ [(⟨bt646.1, bt646.2⟩ : S28)]), bt646.1, bt646.2, y656)) else (none))))) else (if bt659.1 = 5 then (if t634.length < 5864062014805 then ((some (t634 ++ [(⟨bt646.1, bt646.2⟩ : S28)] : List (S28))).bind fun y714 => (if 0 ≤ (wrap64 ((y656.length : Int) - 1)) then (if (wrap64 ((y656.length : Int) - 1)) < (y656.length : Int) then ((some (y656.set ((wrap64 ((y656.length : Int) - 1)) : Int).toNat (⟨#[98, 101, 110, 116]⟩ : ByteArray) : List ByteArray)).bind fun y717 => ((spec_l1Once.f t603 bt659.2.1 bt659.2.2 3).bind fun bt718 => (if bt718.1 = true then (some (t628, t631, t632, y714, bt646.1, bt646.2, y717)) else (if y714.length < 5864062014805 then (some (t628, t631, t632, (y714 ++ [(⟨bt646.1, bt646.2⟩ : S28)]), bt646.1, bt646.2, y717)) else (none))))) else (none)) else (none))) else (none)) else ((spec_l1Once.f t603 bt659.2.1 bt659.2.2 3).bind fun bt724 => (if bt724.1 = true then (some (t628, t631, t632, t634, bt646.1, bt646.2, y656)) else (if t634.length < 5864062014805 then (some (t628, t631, t632, (t634 ++ [(⟨bt646.1, bt646.2⟩ : S28)]), bt646.1, bt646.2, y656)) else (none)))))))))))) else (none))) else (none)))) = some (r1, r2, r3, r4, r5, r6, r7) := yh_ hy642 H
 have Ny642 := Aside0.mk hy642
 clear hy642
 replace H := bi_ H; obtain ⟨⟨t646, t647⟩, A15, H⟩ := H
 dsimp only at H
 obtain ⟨y649, Ny649, H⟩ := sb_ (([] : List ByteArray)) H
 have c16b0 := eq_true (of_decide_eq_true as_ : 0 ≤ t615)
 replace H := ip_ H; obtain ⟨c17, H⟩ := H
 have c17b0 := eq_true c17
 have c17b1 := decide_eq_true c17
 clear c17
 have c18b0 := eq_true (of_decide_eq_true as_ : (ji12) ≤ (y612.length : Int))
 obtain ⟨y652, Ny652, H⟩ := sb_ ((y612.take ((ji12) : Int).toNat).drop (t615 : Int).toNat) H
 replace H := ip_ H; obtain ⟨c19, H⟩ := H
 have LMc19 := Aside0.mk c19
 clear c19
 obtain ⟨y656, Ny656, H⟩ := sb_ (y649 ++ y652) H
 replace H := bi_ H; obtain ⟨⟨t659, t660, t661⟩, A20, H⟩ := H
 dsimp only at H
 go_enter Try.func20, Try.ntmps20
 go_upto_if 54 with (first | ((with_reducible refine gd_ 2 ?_); refine bx_ 2 31 #[.slice none 0 0, .int .i64 0, .string (⟨#[]⟩ : ByteArray)] ?_; intro gb601 hg w25 hbox hb; have BK601 := Aside0.mk hbox; have GW601 := gg_ hg HB; have GE601 := GW601; replace HB := ss_ HB hb; clear hb hbox hg) | ((with_reducible refine gd_ 4 ?_); refine bx_ 4 28 #[.int .i64 0, .string (⟨#[]⟩ : ByteArray)] ?_; intro gb602 hg w26 hbox hb; have BK602 := Aside0.mk hbox; have GW602 := gg_ hg HB; have GE602 := GW602; replace HB := ss_ HB hb; have NB601_602 := Aside0.mk ((by rw [hg]; exact Nat.ne_of_lt (blk_lt (kb_ BK601.out)) : gb601 ≠ gb602)); have NB602_601 := Aside0.mk ((by rw [hg]; exact Nat.ne_of_gt (blk_lt (kb_ BK601.out)) : gb602 ≠ gb601)); replace BK601 := kl_ BK601 hb; clear hb hbox hg) | ((with_reducible refine gq_ 59 15 ?_); refine gc_ 15 Try.func59 (spec_l1New.calls k _ _ l0 t603 t604 t605 w _ (bw_ HB) HR0.out HC0.out A2.out) ?_; rintro e w27 ⟨g606, rfl, hi, hb, hb2⟩; refine ⟨_, rfl, ?_⟩; replace HB := Aside0.mk hb; have HI606 := Aside0.mk hi; have NB606_601 := Aside0.mk (IsS111.ne_blk hi (blk_below (kb_ BK601.out) hb2) (by decide)); have NB601_606 := Aside0.mk (Ne.symm (IsS111.ne_blk hi (blk_below (kb_ BK601.out) hb2) (by decide))); replace BK601 := Aside0.mk (blk_below (kb_ BK601.out) hb2); have NB606_602 := Aside0.mk (IsS111.ne_blk hi (blk_below (kb_ BK602.out) hb2) (by decide)); have NB602_606 := Aside0.mk (Ne.symm (IsS111.ne_blk hi (blk_below (kb_ BK602.out) hb2) (by decide))); replace BK602 := Aside0.mk (blk_below (kb_ BK602.out) hb2); clear hb hb2 hi) | ((with_reducible refine gk_ 60 ?_); refine gl_ 17 Try.func60 #[.pointer (some ⟨g606, 0, none⟩)] ?_; (with_reducible refine (spec_l6List.calls k g606 t603 t604 t605 t607 t610 t611 w _ ?side1 ?side2 A3.out).mono ?_); (case side1 => exact in2x_ HI606 NB606_601 NB606_602); (case side2 => repeat (first | (with_reducible first | exact HB.out | apply below_alloc | apply pw_below_drewN | apply below_drew1 | refine below_set ?_ (IsS111.ge HI606.out) | refine below_set ?_ GE601.out | refine below_set ?_ GE602.out) | exact HB.out)); rintro e w28 ⟨v608, rfl, ho0, hi, hb, hk⟩; refine ⟨_, rfl, ?_⟩; replace BK601 := Aside0.mk (KeepBut.blk hk (g' := gb601) (o := .cells #[.slice none 0 0, .int .i64 0, .string (⟨#[]⟩ : ByteArray)] 31 (0, 0)) (kb_ BK601.out) NB601_606.out (by simp)); replace BK602 := Aside0.mk (KeepBut.blk hk (g' := gb602) (o := .cells #[.int .i64 0, .string (⟨#[]⟩ : ByteArray)] 28 (0, 0)) (kb_ BK602.out) NB602_606.out (by simp)); have HO609 := Aside0.mk (Kd.R_lower ho0 (below_size (bs3_ HB (IsS111.ge HI606.out) GE601.out GE602.out))); replace HB := Aside0.mk hb; replace HI606 := Aside0.mk hi; clear hb hk hi ho0) | ((with_reducible refine gate_builtin (b := .append) (xs := #[.tmp 17, .tmp 18]) rfl ?_); at_builtin; refine Kd.R_append Kd.string (w0 := w) w.heap.size rfl (.tmp 17) (.tmp 18) 24 9 (.string ⟨#[]⟩) 16 rfl Try.underlying24 info9 rfl (by decide) (by omega) v608 t607 (⟨#[113]⟩ : ByteArray) [.string (⟨#[113]⟩ : ByteArray)] (fun _ => True) (fun _ => False) rfl rfl ?aP (fun _ hk => hk.elim) ?aF ?aO ?aB ?aS ?aL ?_; (case aP => exact rfl); (case aB => exact (bs3_ HB (IsS111.ge HI606.out) GE601.out GE602.out)); (case aF => exact (fun _ _ => trivial)); (case aO => exact (kr_ HO609.out)); (case aS => exact (below_size (bs3_ HB (IsS111.ge HI606.out) GE601.out GE602.out))); (case aL => have := LMc4.out; omega); intro v613 w29 ho hb hg hat; rw [← Ny612.out] at ho; replace BK601 := kg_ BK601 HO609 hg; replace BK602 := kg_ BK602 HO609 hg; replace HI606 := Aside0.mk (IsS111.grown (in2x_ HI606 NB606_601 NB606_602) hg (IsS111.own_ne HI606.out HO609.out (by decide))); replace HB := Aside0.mk hb; have HO614 := Aside0.mk ho; clear HO609; clear ho hb hg hat; obtain ⟨Ao30, co30, eo30⟩ := Kd.R_slice HO614.out; subst eo30) | ((with_reducible refine gk_ 61 ?_); refine gl_ 23 Try.func61 #[.pointer (some ⟨g606, 0, none⟩), .int .i64 (y612.length : Int)] ?_; (with_reducible refine (spec_l1Below.calls g606 t603 t610 t611 (y612.length : Int) t615 t616 t617 w _ ?side1 ?side2 A5.out).mono ?_); (case side1 => exact in2x_ HI606 NB606_601 NB606_602); (case side2 => repeat (first | (with_reducible first | exact HB.out | apply below_alloc | apply pw_below_drewN | apply below_drew1 | refine below_set ?_ (IsS111.ge HI606.out) | refine below_set ?_ GE601.out | refine below_set ?_ GE602.out) | exact HB.out)); rintro e w31 ⟨rfl, hi, hb, hk⟩; refine ⟨_, rfl, ?_⟩; replace BK601 := Aside0.mk (KeepBut.blk hk (g' := gb601) (o := .cells #[.slice none 0 0, .int .i64 0, .string (⟨#[]⟩ : ByteArray)] 31 (0, 0)) (kb_ BK601.out) NB601_606.out (by simp)); replace BK602 := Aside0.mk (KeepBut.blk hk (g' := gb602) (o := .cells #[.int .i64 0, .string (⟨#[]⟩ : ByteArray)] 28 (0, 0)) (kb_ BK602.out) NB602_606.out (by simp)); replace HO614 := Aside0.mk (Kd.R_mono (Kd.R_keep (IsS111.apart (show IsS111 w _ g606 t603 t610 t611 from in2x_ HI606 NB606_601 NB606_602) (kr_ HO614.out) (by decide)) hk (fun _ h => h.2)) (fun _ h => h.1)); replace HB := Aside0.mk hb; replace HI606 := Aside0.mk hi; clear hb hk hi) | ((with_reducible refine gd_ 24 ?_); refine rl_ Kd.string 9 24 ([] : List ByteArray) [] ?_; intro v619 w32 ho33 hb hg_ hnew_; clear hg_ hnew_; (first | rw [← Ny618.out] at ho33 | (simp only [Int.reduceToNat] at ho33; rw [← Ny618.out] at ho33)); have HO620 := Aside0.mk (Kd.R_lower (Kd.R_new' ho33 (lt_ HO614)) (below_size (bs3_ HB (IsS111.ge HI606.out) GE601.out GE602.out))); replace HO614 := re_ HO614 ho33 hb; replace BK601 := kl_ BK601 hb; replace BK602 := kl_ BK602 hb; replace HB := Aside0.mk (below_step (bs3_ HB (IsS111.ge HI606.out) GE601.out GE602.out) hb); replace HI606 := Aside0.mk (IsS111.below (in2x_ HI606 NB606_601 NB606_602) hb); clear hb ho33; have q34 : (t615 : Int) ≤ ((y612.length : Int) : Int) := of_decide_eq_true as_; obtain ⟨i034, hi034, _, hsz34, _⟩ := info_parts info9; have hroom34 : y612.length ≤ co30 := (cl_ HO614); have hC34 : Kd.C Kd.string _ Ao30 y612.length y612 := (Kd.R_reads' HO614.out).2.2; have hcut34 := cut_to (P := Try.prog) 24 9 .i64 Try.underlying24 hi034 Ao30 y612.length co30 t615 (of_decide_eq_true as_) q34 hroom34; have hr34 := Kd.C_take (m := (t615 : Int).toNat) hC34 (by omega); have hy34 : y621.length = (t615 : Int).toNat := (by rw [Ny621.out, List.length_take]; omega); rw [← Ny621.out] at hr34; rw [← hy34] at hcut34; have HR624 := Aside0.mk hr34; have HC624 := Aside0.mk (show y621.length ≤ co30 from by omega); clear hr34 hC34 hroom34 hi034 hsz34; have KY34 := Aside0.mk hy34; clear hy34; have KL34 := Aside0.mk (show (t615 : Int).toNat ≤ y612.length from by omega); replace q34 := eq_true q34) | ((with_reducible refine gate_builtin (b := .append) (xs := #[.tmp 24, .tmp 27]) rfl ?_); at_builtin; refine Kd.R_append_rows Kd.string (w0 := w) w.heap.size rfl (.tmp 24) (.tmp 27) 24 9 (.string ⟨#[]⟩) 16 rfl Try.underlying24 info9 rfl (by decide) (by omega) v619 y618 y621 _ _ _ (fun k_ => some k_ ≠ (.slice Ao30 y612.length co30 : Value).ownBlock) (fun _ => False) rfl rfl ?aO ?aR (fun _ _ h => h) (fun _ h => h.elim) ?aF ?aB ?aS ?aL ?_; (case aR => repeat (first | exact (by repeat (first | (with_reducible exact HR624.out) | (with_reducible refine Kd.C_alloc ?_ _) | (with_reducible refine Kd.C_drewN ?_ _) | (with_reducible refine Kd.C_drew ?_) | exact HR624.out)) | (with_reducible refine Kd.C_alloc ?_ _) | (with_reducible refine Kd.C_drewN ?_ _) | (with_reducible refine Kd.C_drew ?_))); (case aB => exact (bs3_ HB (IsS111.ge HI606.out) GE601.out GE602.out)); (case aF => exact (fun k_ hk => Kd.fresh' (lt_ HO614) k_ hk)); (case aO => exact (kr_ (Kd.R_mono HO620.out (fun _ hk => hk.2)))); (case aS => exact (below_size (bs3_ HB (IsS111.ge HI606.out) GE601.out GE602.out))); (case aL => have := LMc8.out; omega); intro v626 w35 ho hb hg hat; rw [← Ny625.out] at ho; replace BK601 := kg_ BK601 HO620 hg; replace BK602 := kg_ BK602 HO620 hg; replace HI606 := Aside0.mk (IsS111.grown (in2x_ HI606 NB606_601 NB606_602) hg (IsS111.own_ne HI606.out HO620.out (by decide))); replace HB := Aside0.mk hb; replace HR624 := Aside0.mk ((show Kd.C Kd.string w35 Ao30 y621.length y621 from by rw [Ny621.out]; exact Kd.C_take (m := (t615 : Int).toNat) ((Kd.R_reads' (Kd.R_after (ok := (fun _ => True)) (kr_ HO614.out) hg hat)).2.2) KL34.out)); replace HO614 := Aside0.mk (Kd.R_after (ok := (fun _ => True)) (kr_ HO614.out) hg hat); have HO627 := Aside0.mk ho; clear HO620; clear ho hb hg hat; obtain ⟨Ao36, co36, eo36⟩ := Kd.R_slice HO627.out; subst eo36) | ((with_reducible refine gk_ 70 ?_); refine gl_ 29 Try.func70 #[.slice Ao36 y625.length co36] ?_; (with_reducible refine (spec_l11Log.calls k (fun k_ => some k_ = (.slice Ao36 y625.length co36 : Value).ownBlock) (.slice Ao36 y625.length co36) y625 t628 t631 t632 w _ ?side1 ?side2 A9.out).mono ?_); (case side1 => repeat (first | (with_reducible first | exact HB.out | apply below_alloc | apply pw_below_drewN | apply below_drew1 | refine below_set ?_ (IsS111.ge HI606.out) | refine below_set ?_ GE601.out | refine below_set ?_ GE602.out) | exact HB.out)); (case side2 => exact Kd.R_tight rfl HO627.out); rintro e w37 ⟨v629, rfl, ho0, hb, hkp⟩; refine ⟨_, rfl, ?_⟩; replace BK601 := Aside0.mk (blk_kept (kb_ BK601.out) hkp (fun hs_ => (fun e_ => (Kd.R_ne HO627.out BK601.out (by decide)) e_) hs_)); replace BK602 := Aside0.mk (blk_kept (kb_ BK602.out) hkp (fun hs_ => (fun e_ => (Kd.R_ne HO627.out BK602.out (by decide)) e_) hs_)); replace HI606 := Aside0.mk (IsS111.kept (in2x_ HI606 NB606_601 NB606_602) hkp (fun hs_ => (fun e_ => (IsS111.own_ne HI606.out HO627.out (by decide)) e_) hs_)); have HO630 := Aside0.mk (Kd.R_mono (ok' := fun k_ => some k_ ≠ (.slice Ao30 y612.length co30 : Value).ownBlock) ho0 (fun k_ hk_ => Or.elim hk_ (fun hs_ => fun e_ => (((HO614.out).1 k_ e_.symm).2) hs_) (fun hn_ => (Kd.fresh' (lt_ HO614) k_ hn_)))); replace HO614 := Aside0.mk (Kd.R_mono (ok' := fun k_ => some k_ ≠ (v629 : Value).ownBlock) (Kd.R_keptB (HO614.out) hkp (fun k_ hk_ hs_ => (hk_.2) hs_)) (fun k_ hk_ => fun e_ => Or.elim (ho0.1 k_ e_.symm) (fun hs_ => hk_.2.1 hs_) (fun hn_ => Nat.not_le.2 hk_.2.2 hn_))); replace HB := Aside0.mk hb; clear HO627; clear hb hkp ho0) | ((with_reducible refine gd_ 9 ?_); refine bx_ 9 31 #[.slice none 0 0, .int .i64 0, .string (⟨#[]⟩ : ByteArray)] ?_; intro gb633 hg w38 hbox hb; replace HO614 := rb_ HO614 hb; replace HO630 := rb_ HO630 hb; have BK633 := Aside0.mk hbox; have GW633 := Aside0.mk (gz_ hg (below_size (bs3_ HB (IsS111.ge HI606.out) GE601.out GE602.out))); have GE633 := Aside0.mk (gz_ hg (below_size (bs3_ HB (IsS111.ge HI606.out) GE601.out GE602.out))); replace HB := Aside0.mk (below_step (bs3_ HB (IsS111.ge HI606.out) GE601.out GE602.out) hb); have NB601_633 := Aside0.mk ((by rw [hg]; exact Nat.ne_of_lt (blk_lt (kb_ BK601.out)) : gb601 ≠ gb633)); have NB633_601 := Aside0.mk ((by rw [hg]; exact Nat.ne_of_gt (blk_lt (kb_ BK601.out)) : gb633 ≠ gb601)); replace BK601 := kl_ BK601 hb; have NB602_633 := Aside0.mk ((by rw [hg]; exact Nat.ne_of_lt (blk_lt (kb_ BK602.out)) : gb602 ≠ gb633)); have NB633_602 := Aside0.mk ((by rw [hg]; exact Nat.ne_of_gt (blk_lt (kb_ BK602.out)) : gb633 ≠ gb602)); replace BK602 := kl_ BK602 hb; have NB606_633 := Aside0.mk ((by rw [hg]; exact Nat.ne_of_lt (IsS111.lt (show IsS111 w _ g606 t603 t616 t617 from in2x_ HI606 NB606_601 NB606_602)) : g606 ≠ gb633)); have NB633_606 := Aside0.mk ((by rw [hg]; exact Nat.ne_of_gt (IsS111.lt (show IsS111 w _ g606 t603 t616 t617 from in2x_ HI606 NB606_601 NB606_602)) : gb633 ≠ g606)); replace HI606 := Aside0.mk (IsS111.below (in2x_ HI606 NB606_601 NB606_602) hb); clear hb hbox hg; obtain ⟨Ao39, co39, eo39⟩ := Kd.R_slice HO630.out; subst eo39; have hnb40 := NB633_601.out; have hnc40 := NB601_633.out; have hnb41 := NB633_602.out; have hnc41 := NB602_633.out; have hnb42 := NB633_606.out; have hnc42 := NB606_633.out; have hz43 := cz3_ BK633) | ((with_reducible refine gk_ 71 ?_); refine gl_ 32 Try.func71 #[.pointer (some ⟨g606, 0, none⟩), .slice Ao30 y612.length co30] ?_; (with_reducible refine (spec_l10Table.calls k g606 t603 t616 t617 _ _ y612 t634 t637 t638 w _ ?side1 ?side2 ?side3 ?side4 ?side5 A10.out).mono ?_); (case side1 => exact in3x_ HI606 NB606_601 NB606_602 NB606_633); (case side2 => repeat (first | (with_reducible first | exact HB.out | apply below_alloc | apply pw_below_drewN | apply below_drew1 | refine below_set ?_ (IsS111.ge HI606.out) | refine below_set ?_ GE601.out | refine below_set ?_ GE602.out | refine below_set ?_ GE633.out) | exact HB.out)); (case side3 => exact chf_ HO614 BK633); (case side4 => exact (cl_ HO614)); (case side5 => exact far_slice (IsS111.own_ne HI606.out HO614.out (by decide))); rintro e w44 ⟨v635, rfl, ho0, hi, hb, hk⟩; refine ⟨_, rfl, ?_⟩; replace BK601 := Aside0.mk (KeepBut.blk hk (g' := gb601) (o := .cells #[.slice none 0 0, .int .i64 0, .string (⟨#[]⟩ : ByteArray)] 31 (0, 0)) (kq_ BK601) NB601_606.out (by simp)); replace HO614 := Aside0.mk (Kd.R_mono (Kd.R_keep (IsS111.apart (show IsS111 w _ g606 t603 t616 t617 from in3x_ HI606 NB606_601 NB606_602 NB606_633) (kf_ HO614 BK633) (by decide)) hk (fun _ h => h.2)) (fun _ h => h.1)); replace HO630 := Aside0.mk (Kd.R_mono (Kd.R_keep (IsS111.apart (show IsS111 w _ g606 t603 t616 t617 from in3x_ HI606 NB606_601 NB606_602 NB606_633) (kf_ HO630 BK633) (by decide)) hk (fun _ h => h.2)) (fun _ h => h.1)); replace BK633 := Aside0.mk (KeepBut.blk hk (g' := gb633) (o := .cells #[.slice Ao39 t628.length co39, .int .i64 t631, .string t632] 31 (0, 0)) (kq_ BK633) NB633_606.out (by simp)); have HO636 := Aside0.mk (Kd.R_lower (Kd.R_newB ho0 (kq_ BK602)) (below_size (bs4_ HB (IsS111.ge HI606.out) GE601.out GE602.out GE633.out))); replace BK602 := Aside0.mk (KeepBut.blk hk (g' := gb602) (o := .cells #[.int .i64 0, .string (⟨#[]⟩ : ByteArray)] 28 (0, 0)) (kq_ BK602) NB602_606.out (by simp)); replace HB := Aside0.mk hb; replace HI606 := Aside0.mk hi; clear hb hk hi ho0) | ((with_reducible refine gk_ 61 ?_); refine gl_ 40 Try.func61 #[.pointer (some ⟨g606, 0, none⟩), .int .i64 (wrap64 ((y612.length : Int) - t615))] ?_; (with_reducible refine (spec_l1Below.calls g606 t603 t637 t638 (wrap64 ((y612.length : Int) - t615)) t639 t640 t641 w _ ?side1 ?side2 A11.out).mono ?_); (case side1 => exact in3x_ HI606 NB606_601 NB606_602 NB606_633); (case side2 => repeat (first | (with_reducible first | exact HB.out | apply below_alloc | apply pw_below_drewN | apply below_drew1 | refine below_set ?_ (IsS111.ge HI606.out) | refine below_set ?_ GE601.out | refine below_set ?_ GE602.out | refine below_set ?_ GE633.out) | exact HB.out)); rintro e w45 ⟨rfl, hi, hb, hk⟩; refine ⟨_, rfl, ?_⟩; replace BK601 := Aside0.mk (KeepBut.blk hk (g' := gb601) (o := .cells #[.slice none 0 0, .int .i64 0, .string (⟨#[]⟩ : ByteArray)] 31 (0, 0)) (kb_ BK601.out) NB601_606.out (by simp)); replace BK602 := Aside0.mk (KeepBut.blk hk (g' := gb602) (o := .cells #[.int .i64 0, .string (⟨#[]⟩ : ByteArray)] 28 (0, 0)) (kb_ BK602.out) NB602_606.out (by simp)); replace HO614 := Aside0.mk (Kd.R_mono (Kd.R_keep (IsS111.apart (show IsS111 w _ g606 t603 t637 t638 from in3x_ HI606 NB606_601 NB606_602 NB606_633) (kr_ HO614.out) (by decide)) hk (fun _ h => h.2)) (fun _ h => h.1)); replace HO630 := Aside0.mk (Kd.R_mono (Kd.R_keep (IsS111.apart (show IsS111 w _ g606 t603 t637 t638 from in3x_ HI606 NB606_601 NB606_602 NB606_633) (kr_ HO630.out) (by decide)) hk (fun _ h => h.2)) (fun _ h => h.1)); replace BK633 := Aside0.mk (KeepBut.blk hk (g' := gb633) (o := .cells #[.slice Ao39 t628.length co39, .int .i64 t631, .string t632] 31 (0, 0)) (kb_ BK633.out) NB633_606.out (by simp)); replace HO636 := Aside0.mk (Kd.R_mono (Kd.R_keep (IsS111.apart (show IsS111 w _ g606 t603 t637 t638 from in3x_ HI606 NB606_601 NB606_602 NB606_633) (kr_ HO636.out) (by decide)) hk (fun _ h => h.2)) (fun _ h => h.1)); replace HB := Aside0.mk hb; replace HI606 := Aside0.mk hi; clear hb hk hi; have q46 : ((ji12) : Int) ≤ ((y612.length : Int) : Int) := of_decide_eq_true as_; obtain ⟨i046, hi046, _, hsz46, _⟩ := info_parts info9; have hroom46 : y612.length ≤ co30 := (cl_ HO614); have hC46 : Kd.C Kd.string _ Ao30 y612.length y612 := (Kd.R_reads' HO614.out).2.2; have hcut46 := cut_to (P := Try.prog) 24 9 .i64 Try.underlying24 hi046 Ao30 y612.length co30 (ji12) (of_decide_eq_true as_) q46 hroom46; have hr46 := Kd.C_take (m := ((ji12) : Int).toNat) hC46 (by omega); have hy46 : y642.length = ((ji12) : Int).toNat := (by rw [Ny642.out, List.length_take]; omega); rw [← Ny642.out] at hr46; rw [← hy46] at hcut46; have HR645 := Aside0.mk hr46; have HC645 := Aside0.mk (show y642.length ≤ co30 from by omega); clear hr46 hC46 hroom46 hi046 hsz46; have KY46 := Aside0.mk hy46; clear hy46; have KL46 := Aside0.mk (show ((ji12) : Int).toNat ≤ y612.length from by omega); replace q46 := eq_true q46) | ((with_reducible refine gk_ 72 ?_); refine gl_ 45 Try.func72 #[.slice Ao30 y642.length co30] ?_; (with_reducible refine (spec_HeadOf.calls k _ _ y642 t646 t647 _ ?side1 ?side2 A15.out).mono ?_); (case side1 => exact cr_ (by repeat (first | (with_reducible exact HR645.out) | (with_reducible refine Kd.C_alloc ?_ _) | (with_reducible refine Kd.C_drewN ?_ _) | (with_reducible refine Kd.C_drew ?_) | exact HR645.out))); (case side2 => exact HC645.out); rintro e w47 ⟨rfl, hb⟩; refine ⟨_, rfl, ?_⟩; replace HO614 := rb_ HO614 hb; replace HO630 := rb_ HO630 hb; replace HO636 := rb_ HO636 hb; replace BK601 := kl_ BK601 hb; replace BK602 := kl_ BK602 hb; replace BK633 := kl_ BK633 hb; replace HR645 := Aside0.mk (Kd.C_below (by repeat (first | (with_reducible exact HR645.out) | (with_reducible refine Kd.C_alloc ?_ _) | (with_reducible refine Kd.C_drewN ?_ _) | (with_reducible refine Kd.C_drew ?_) | exact HR645.out)) hb); replace HB := Aside0.mk (below_step (bs4_ HB (IsS111.ge HI606.out) GE601.out GE602.out GE633.out) hb); replace HI606 := Aside0.mk (IsS111.below (in3x_ HI606 NB606_601 NB606_602 NB606_633) hb); clear hb) | ((with_reducible refine gd_ 12 ?_); refine bx_ 12 28 #[.int .i64 0, .string (⟨#[]⟩ : ByteArray)] ?_; intro gb648 hg w48 hbox hb; replace HO614 := rb_ HO614 hb; replace HO630 := rb_ HO630 hb; replace HO636 := Aside0.mk (Kd.R_below (Kd.R_elderB (kr_ HO636.out) gb648 (Nat.le_of_eq hg.symm)) hb); replace HR645 := Aside0.mk (Kd.C_below (by repeat (first | (with_reducible exact HR645.out) | (with_reducible refine Kd.C_alloc ?_ _) | (with_reducible refine Kd.C_drewN ?_ _) | (with_reducible refine Kd.C_drew ?_) | exact HR645.out)) hb); have BK648 := Aside0.mk hbox; have GW648 := Aside0.mk (gz_ hg (below_size (bs4_ HB (IsS111.ge HI606.out) GE601.out GE602.out GE633.out))); have GE648 := Aside0.mk (gz_ hg (below_size (bs4_ HB (IsS111.ge HI606.out) GE601.out GE602.out GE633.out))); replace HB := Aside0.mk (below_step (bs4_ HB (IsS111.ge HI606.out) GE601.out GE602.out GE633.out) hb); have NB601_648 := Aside0.mk ((by rw [hg]; exact Nat.ne_of_lt (blk_lt (kb_ BK601.out)) : gb601 ≠ gb648)); have NB648_601 := Aside0.mk ((by rw [hg]; exact Nat.ne_of_gt (blk_lt (kb_ BK601.out)) : gb648 ≠ gb601)); replace BK601 := kl_ BK601 hb; have NB602_648 := Aside0.mk ((by rw [hg]; exact Nat.ne_of_lt (blk_lt (kb_ BK602.out)) : gb602 ≠ gb648)); have NB648_602 := Aside0.mk ((by rw [hg]; exact Nat.ne_of_gt (blk_lt (kb_ BK602.out)) : gb648 ≠ gb602)); replace BK602 := kl_ BK602 hb; have NB633_648 := nla_ hg BK633; have NB648_633 := nga_ hg BK633; replace BK633 := kl_ BK633 hb; have NB606_648 := Aside0.mk ((by rw [hg]; exact Nat.ne_of_lt (IsS111.lt (show IsS111 w _ g606 t603 t640 t641 from in3x_ HI606 NB606_601 NB606_602 NB606_633)) : g606 ≠ gb648)); have NB648_606 := Aside0.mk ((by rw [hg]; exact Nat.ne_of_gt (IsS111.lt (show IsS111 w _ g606 t603 t640 t641 from in3x_ HI606 NB606_601 NB606_602 NB606_633)) : gb648 ≠ g606)); replace HI606 := Aside0.mk (IsS111.below (in3x_ HI606 NB606_601 NB606_602 NB606_633) hb); clear hb hbox hg; have hnb49 := NB648_601.out; have hnc49 := NB601_648.out; have hnb50 := NB648_602.out; have hnc50 := NB602_648.out; have hnb51 := NB648_633.out; have hnc51 := NB633_648.out; have hnb52 := NB648_606.out; have hnc52 := NB606_648.out; have hz53 := cz2_ BK648) | ((with_reducible refine gd_ 46 ?_); refine rl_ Kd.string 9 46 ([] : List ByteArray) [] ?_; intro v650 w54 ho55 hb hg_ hnew_; clear hg_ hnew_; (first | rw [← Ny649.out] at ho55 | (simp only [Int.reduceToNat] at ho55; rw [← Ny649.out] at ho55)); replace HO636 := Aside0.mk (Kd.R_below (kr_ ((Kd.R_mono (Kd.R_far (p := ⟨gb648, 1, none⟩) (Kd.R_far (p := ⟨gb648, 0, none⟩) (Kd.R_mono HO636.out (fun k_ hk => (⟨hk, hk.2⟩ : _ ∧ k_ ≠ gb648))) (fun _ hk => hk.2) (.int .i64 t646)) (fun _ hk => hk.2) (.string t647)) (fun _ h_ => h_.1)))) hb); have HO651 := Aside0.mk (Kd.R_lower (Kd.R_new' (Kd.R_new' ho55 (lf_ HO614 BK648)) (lf_ HO630 BK648)) (below_size (bs5_ HB (IsS111.ge HI606.out) GE601.out GE602.out GE633.out GE648.out))); replace HO630 := ref_ HO630 BK648 ho55 hb; replace BK601 := kp_ BK601 hb; replace BK602 := kp_ BK602 hb; replace BK633 := kp_ BK633 hb; replace HR645 := Aside0.mk (Kd.C_below ((show Kd.C Kd.string _ Ao30 y642.length y642 from by rw [Ny642.out]; exact Kd.C_take (m := ((ji12) : Int).toNat) ((Kd.R_reads' (kf_ HO614 BK648)).2.2) KL46.out)) hb); replace HO614 := ref_ HO614 BK648 ho55 hb; replace BK648 := kp_ BK648 hb; replace HB := Aside0.mk (below_step (bs5_ HB (IsS111.ge HI606.out) GE601.out GE602.out GE633.out GE648.out) hb); replace HI606 := Aside0.mk (IsS111.below (show IsS111 w ((w48.setCell ⟨gb648, 0, none⟩ (.int .i64 t646)).setCell ⟨gb648, 1, none⟩ (.string t647)) g606 t603 t640 t641 from in4x_ HI606 NB606_601 NB606_602 NB606_633 NB606_648) hb); clear hb ho55; have q56 : ((ji12) : Int) ≤ ((y612.length : Int) : Int) := of_decide_eq_true as_; obtain ⟨i056, hi056, _, hsz56, _⟩ := info_parts info9; have hroom56 : y612.length ≤ co30 := (cl_ HO614); have hC56 : Kd.C Kd.string _ Ao30 y612.length y612 := (Kd.R_reads' HO614.out).2.2; have ql56 : (t615 : Int) ≤ ((ji12) : Int) := of_decide_eq_true as_; have q056 : (0 : Int) ≤ (t615 : Int) := of_decide_eq_true as_; have hcut56 := cut_mid (P := Try.prog) 24 9 .i64 .i64 Try.underlying24 hi056 1 hsz56 Ao30 y612.length co30 t615 (ji12) q056 ql56 q56 hroom56; have hr56 := Kd.C_mid (lo := (t615 : Int).toNat) (hi := ((ji12) : Int).toNat) (c := co30) hC56 (by omega) (by omega) hroom56; obtain ⟨A56, hA56⟩ : ∃ A1, A1 = (if co30 = (t615 : Int).toNat then Ao30 else (Ao30 : Option Addr).map (·.add ((t615 : Int).toNat * 1))) := ⟨_, rfl⟩; obtain ⟨c56, hc56⟩ : ∃ c1, c1 = co30 - (t615 : Int).toNat := ⟨_, rfl⟩; have hy56 : y652.length = ((ji12) : Int).toNat - (t615 : Int).toNat := (by rw [Ny652.out, List.length_drop, List.length_take] <;> omega); rw [show ((y612).take ((ji12) : Int).toNat).drop (t615 : Int).toNat = y652 from Ny652.out.symm] at hr56; replace hr56 : Kd.C Kd.string _ A56 y652.length y652 := (by rw [hA56]; exact hr56); rw [← hy56, ← hA56, ← hc56] at hcut56; have HR655 := Aside0.mk hr56; have HC655 := Aside0.mk (show y652.length ≤ c56 from by rw [hy56, hc56]; exact Nat.sub_le_sub_right (Nat.le_trans (by omega) hroom56) _); clear hr56 hC56 hroom56 hi056 hsz56 hc56; have KY56 := Aside0.mk hy56; have KA56 := Aside0.mk hA56; clear hy56 hA56; have KL56 := Aside0.mk (show ((ji12) : Int).toNat ≤ y612.length from by omega); have KM56 := Aside0.mk (show (t615 : Int).toNat ≤ ((ji12) : Int).toNat from by omega); replace q56 := eq_true q56) | ((with_reducible refine gate_builtin (b := .append) (xs := #[.tmp 46, .tmp 50]) rfl ?_); at_builtin; refine Kd.R_append_rows Kd.string (w0 := w) w.heap.size rfl (.tmp 46) (.tmp 50) 24 9 (.string ⟨#[]⟩) 16 rfl Try.underlying24 info9 rfl (by decide) (by omega) v650 y649 y652 _ _ _ (fun k_ => some k_ ≠ (.slice Ao30 y612.length co30 : Value).ownBlock ∧ some k_ ≠ (.slice Ao39 t628.length co39 : Value).ownBlock) (fun _ => False) rfl rfl ?aO ?aR (fun _ _ h => h) (fun _ h => h.elim) ?aF ?aB ?aS ?aL ?_; (case aR => repeat (first | exact (by repeat (first | (with_reducible exact HR655.out) | (with_reducible refine Kd.C_alloc ?_ _) | (with_reducible refine Kd.C_drewN ?_ _) | (with_reducible refine Kd.C_drew ?_) | exact HR655.out)) | (with_reducible refine Kd.C_alloc ?_ _) | (with_reducible refine Kd.C_drewN ?_ _) | (with_reducible refine Kd.C_drew ?_))); (case aB => exact (bs5_ HB (IsS111.ge HI606.out) GE601.out GE602.out GE633.out GE648.out)); (case aF => exact (fun k_ hk => ⟨Kd.fresh' (lt_ HO614) k_ hk, Kd.fresh' (lt_ HO630) k_ hk⟩)); (case aO => exact (kr_ (Kd.R_mono HO651.out (fun _ hk => ⟨hk.1.2, hk.2⟩)))); (case aS => exact (below_size (bs5_ HB (IsS111.ge HI606.out) GE601.out GE602.out GE633.out GE648.out))); (case aL => have := LMc19.out; omega); intro v657 w57 ho hb hg hat; rw [← Ny656.out] at ho; replace BK601 := kg_ BK601 HO651 hg; replace BK602 := kg_ BK602 HO651 hg; replace HI606 := Aside0.mk (IsS111.grown (in4x_ HI606 NB606_601 NB606_602 NB606_633 NB606_648) hg (IsS111.own_ne HI606.out HO651.out (by decide))); replace HO630 := Aside0.mk (Kd.R_after (ok := (fun k_ => some k_ ≠ (.slice Ao30 y612.length co30 : Value).ownBlock)) (kr_ HO630.out) hg hat); replace BK633 := kg_ BK633 HO651 hg; replace HO636 := Aside0.mk (Kd.R_over' (kr_ HO636.out) (Kd.R_typed (kr_ HO651.out)) (by decide) hg); replace BK648 := kg_ BK648 HO651 hg; replace HB := Aside0.mk hb; replace HR645 := Aside0.mk ((show Kd.C Kd.string w57 Ao30 y642.length y642 from by rw [Ny642.out]; exact Kd.C_take (m := ((ji12) : Int).toNat) ((Kd.R_reads' (Kd.R_after (ok := (fun k_ => some k_ ≠ (.slice Ao39 t628.length co39 : Value).ownBlock)) (kr_ HO614.out) hg hat)).2.2) KL46.out)); replace HR655 := Aside0.mk ((show Kd.C Kd.string w57 A56 y652.length y652 from by rw [Ny652.out, KA56.out]; exact Kd.C_mid (lo := (t615 : Int).toNat) (hi := ((ji12) : Int).toNat) (c := co30) ((Kd.R_reads' (Kd.R_after (ok := (fun k_ => some k_ ≠ (.slice Ao39 t628.length co39 : Value).ownBlock)) (kr_ HO614.out) hg hat)).2.2) KM56.out KL56.out ((Kd.R_reads' (Kd.R_after (ok := (fun k_ => some k_ ≠ (.slice Ao39 t628.length co39 : Value).ownBlock)) (kr_ HO614.out) hg hat)).2.1))); replace HO614 := Aside0.mk (Kd.R_after (ok := (fun k_ => some k_ ≠ (.slice Ao39 t628.length co39 : Value).ownBlock)) (kr_ HO614.out) hg hat); have HO658 := Aside0.mk ho; clear HO651; clear ho hb hg hat) | ((with_reducible refine gk_ 61 ?_); refine gl_ 53 Try.func61 #[.pointer (some ⟨g606, 0, none⟩), .int .i64 8] ?_; (with_reducible refine (spec_l1Below.calls g606 t603 t640 t641 8 t659 t660 t661 w _ ?side1 ?side2 A20.out).mono ?_); (case side1 => exact in4x_ HI606 NB606_601 NB606_602 NB606_633 NB606_648); (case side2 => repeat (first | (with_reducible first | exact HB.out | apply below_alloc | apply pw_below_drewN | apply below_drew1 | refine below_set ?_ (IsS111.ge HI606.out) | refine below_set ?_ GE601.out | refine below_set ?_ GE602.out | refine below_set ?_ GE633.out | refine below_set ?_ GE648.out) | exact HB.out)); rintro e w58 ⟨rfl, hi, hb, hk⟩; refine ⟨_, rfl, ?_⟩; replace BK601 := Aside0.mk (KeepBut.blk hk (g' := gb601) (o := .cells #[.slice none 0 0, .int .i64 0, .string (⟨#[]⟩ : ByteArray)] 31 (0, 0)) (kb_ BK601.out) NB601_606.out (by simp)); replace BK602 := Aside0.mk (KeepBut.blk hk (g' := gb602) (o := .cells #[.int .i64 0, .string (⟨#[]⟩ : ByteArray)] 28 (0, 0)) (kb_ BK602.out) NB602_606.out (by simp)); replace HO614 := Aside0.mk (Kd.R_mono (Kd.R_keep (IsS111.apart (show IsS111 w _ g606 t603 t640 t641 from in4x_ HI606 NB606_601 NB606_602 NB606_633 NB606_648) (kr_ HO614.out) (by decide)) hk (fun _ h => h.2)) (fun _ h => h.1)); replace HO630 := Aside0.mk (Kd.R_mono (Kd.R_keep (IsS111.apart (show IsS111 w _ g606 t603 t640 t641 from in4x_ HI606 NB606_601 NB606_602 NB606_633 NB606_648) (kr_ HO630.out) (by decide)) hk (fun _ h => h.2)) (fun _ h => h.1)); replace BK633 := Aside0.mk (KeepBut.blk hk (g' := gb633) (o := .cells #[.slice Ao39 t628.length co39, .int .i64 t631, .string t632] 31 (0, 0)) (kb_ BK633.out) NB633_606.out (by simp)); replace HO636 := Aside0.mk (Kd.R_mono (Kd.R_keep (IsS111.apart (show IsS111 w _ g606 t603 t640 t641 from in4x_ HI606 NB606_601 NB606_602 NB606_633 NB606_648) (kr_ HO636.out) (by decide)) hk (fun _ h => h.2)) (fun _ h => h.1)); replace BK648 := Aside0.mk (KeepBut.blk hk (g' := gb648) (o := .cells #[.int .i64 t646, .string t647] 28 (0, 0)) (kb_ BK648.out) NB648_606.out (by simp)); replace HO658 := Aside0.mk (Kd.R_mono (Kd.R_keep (IsS111.apart (show IsS111 w _ g606 t603 t640 t641 from in4x_ HI606 NB606_601 NB606_602 NB606_633 NB606_648) (kr_ HO658.out) (by decide)) hk (fun _ h => h.2)) (fun _ h => h.1)); replace HB := Aside0.mk hb; replace HI606 := Aside0.mk hi; clear hb hk hi))
 (try simp only [Act.put, List.setIfInBounds_toArray, List.set_cons_zero, List.set_cons_succ])
 replace H := it_ H; obtain ⟨c21, H⟩ | ⟨c21, H⟩ := H
 ·have c21b0 : (t659 == 0) = true := beq_iff_eq.mpr c21
  have c21b1 : (t659 != 0) = false := bne_eq_false_iff_eq.mpr c21
  clear c21
  replace H := bi_ H; obtain ⟨⟨t662, t665, t666, t667, t668⟩, A22, H⟩ := H
  dsimp only at H
  replace H := bi_ H; obtain ⟨⟨t669, t670, t671⟩, A23, H⟩ := H
  dsimp only at H
  replace H := itb_ H; obtain ⟨rfl, H⟩ | ⟨rfl, H⟩ := H
  ·replace H := so7_ H; obtain ⟨rfl, rfl, rfl, rfl, rfl, rfl, rfl⟩ := H
   try go_wp2_with (first | ((with_reducible refine gk_ 73 ?_); refine gl_ 57 Try.func73 #[.pointer (some ⟨g606, 0, none⟩)] ?_; (with_reducible refine (spec_l11Any.calls k g606 t603 t660 t661 t662 t665 t666 t667 t668 w _ ?side1 ?side2 A22.out).mono ?_); (case side1 => exact in4x_ HI606 NB606_601 NB606_602 NB606_633 NB606_648); (case side2 => repeat (first | (with_reducible first | exact HB.out | apply below_alloc | apply pw_below_drewN | apply below_drew1 | refine below_set ?_ (IsS111.ge HI606.out) | refine below_set ?_ GE601.out | refine below_set ?_ GE602.out | refine below_set ?_ GE633.out | refine below_set ?_ GE648.out) | exact HB.out)); rintro e w59 ⟨v663, rfl, ho0, hi, hb, hk⟩; refine ⟨_, rfl, ?_⟩; replace BK601 := Aside0.mk (KeepBut.blk hk (g' := gb601) (o := .cells #[.slice none 0 0, .int .i64 0, .string (⟨#[]⟩ : ByteArray)] 31 (0, 0)) (kb_ BK601.out) NB601_606.out (by simp)); replace BK602 := Aside0.mk (KeepBut.blk hk (g' := gb602) (o := .cells #[.int .i64 0, .string (⟨#[]⟩ : ByteArray)] 28 (0, 0)) (kb_ BK602.out) NB602_606.out (by simp)); replace BK633 := Aside0.mk (KeepBut.blk hk (g' := gb633) (o := .cells #[.slice Ao39 t628.length co39, .int .i64 t631, .string t632] 31 (0, 0)) (kb_ BK633.out) NB633_606.out (by simp)); replace HO636 := Aside0.mk (Kd.R_mono (Kd.R_keep (IsS111.apart (show IsS111 w _ g606 t603 t660 t661 from in4x_ HI606 NB606_601 NB606_602 NB606_633 NB606_648) (kr_ HO636.out) (by decide)) hk (fun _ h => h.2)) (fun _ h => h.1)); replace BK648 := Aside0.mk (KeepBut.blk hk (g' := gb648) (o := .cells #[.int .i64 t646, .string t647] 28 (0, 0)) (kb_ BK648.out) NB648_606.out (by simp)); have HO664 := Aside0.mk (Kd.R_lower (Kd.R_new' (Kd.R_new' (Kd.R_new' ho0 (lt_ HO614)) (lt_ HO630)) (lt_ HO658)) (below_size (bs5_ HB (IsS111.ge HI606.out) GE601.out GE602.out GE633.out GE648.out))); replace HO614 := Aside0.mk (Kd.R_mono (Kd.R_told (Kd.R_oldK (IsS111.apart (show IsS111 w _ g606 t603 t660 t661 from in4x_ HI606 NB606_601 NB606_602 NB606_633 NB606_648) (kr_ HO614.out) (by decide)) hk) (Kd.R_base ho0)) (fun _ h_ => h_.1)); replace HO630 := Aside0.mk (Kd.R_mono (Kd.R_told (Kd.R_oldK (IsS111.apart (show IsS111 w _ g606 t603 t660 t661 from in4x_ HI606 NB606_601 NB606_602 NB606_633 NB606_648) (kr_ HO630.out) (by decide)) hk) (Kd.R_base ho0)) (fun _ h_ => h_.1)); replace HO658 := Aside0.mk (Kd.R_mono (Kd.R_told (Kd.R_oldK (IsS111.apart (show IsS111 w _ g606 t603 t660 t661 from in4x_ HI606 NB606_601 NB606_602 NB606_633 NB606_648) (kr_ HO658.out) (by decide)) hk) (Kd.R_base ho0)) (fun _ h_ => h_.1)); replace HB := Aside0.mk hb; replace HI606 := Aside0.mk hi; clear hb hk hi ho0; obtain ⟨Ao60, co60, eo60⟩ := Kd.R_slice HO664.out; subst eo60; have hz61 := cz3_ BK633) | ((with_reducible refine gk_ 75 ?_); refine gl_ 89 Try.func75 #[.pointer (some ⟨g606, 0, none⟩), .int .i64 3] ?_; (with_reducible refine (spec_l1Once.calls g606 t603 t667 t668 3 true t670 t671 w _ ?side1 ?side2 A23.out).mono ?_); (case side1 => exact in4x_ HI606 NB606_601 NB606_602 NB606_633 NB606_648); (case side2 => repeat (first | (with_reducible first | exact HB.out | apply below_alloc | apply pw_below_drewN | apply below_drew1 | refine below_set ?_ (IsS111.ge HI606.out) | refine below_set ?_ GE601.out | refine below_set ?_ GE602.out | refine below_set ?_ GE633.out | refine below_set ?_ GE648.out) | exact HB.out)); rintro e w62 ⟨rfl, hi, hb, hk⟩; refine ⟨_, rfl, ?_⟩; replace BK601 := Aside0.mk (KeepBut.blk hk (g' := gb601) (o := .cells #[.slice none 0 0, .int .i64 0, .string (⟨#[]⟩ : ByteArray)] 31 (0, 0)) (kq_ BK601) NB601_606.out (by simp)); replace BK602 := Aside0.mk (KeepBut.blk hk (g' := gb602) (o := .cells #[.int .i64 0, .string (⟨#[]⟩ : ByteArray)] 28 (0, 0)) (kq_ BK602) NB602_606.out (by simp)); replace HO614 := Aside0.mk (Kd.R_mono (Kd.R_keep (IsS111.apart (show IsS111 w _ g606 t603 t667 t668 from in4x_ HI606 NB606_601 NB606_602 NB606_633 NB606_648) (kf_ HO614 BK633) (by decide)) hk (fun _ h => h.2)) (fun _ h => h.1)); replace HO630 := Aside0.mk (Kd.R_mono (Kd.R_keep (IsS111.apart (show IsS111 w _ g606 t603 t667 t668 from in4x_ HI606 NB606_601 NB606_602 NB606_633 NB606_648) (kf_ HO630 BK633) (by decide)) hk (fun _ h => h.2)) (fun _ h => h.1)); replace HO636 := Aside0.mk (Kd.R_mono (Kd.R_keep (IsS111.apart (show IsS111 w _ g606 t603 t667 t668 from in4x_ HI606 NB606_601 NB606_602 NB606_633 NB606_648) (kf_ HO636 BK633) (by decide)) hk (fun _ h => h.2)) (fun _ h => h.1)); replace BK648 := Aside0.mk (KeepBut.blk hk (g' := gb648) (o := .cells #[.int .i64 t646, .string t647] 28 (0, 0)) (kq_ BK648) NB648_606.out (by simp)); replace HO658 := Aside0.mk (Kd.R_mono (Kd.R_keep (IsS111.apart (show IsS111 w _ g606 t603 t667 t668 from in4x_ HI606 NB606_601 NB606_602 NB606_633 NB606_648) (kf_ HO658 BK633) (by decide)) hk (fun _ h => h.2)) (fun _ h => h.1)); replace HO664 := Aside0.mk (Kd.R_mono (Kd.R_keep (IsS111.apart (show IsS111 w _ g606 t603 t667 t668 from in4x_ HI606 NB606_601 NB606_602 NB606_633 NB606_648) (kf_ HO664 BK633) (by decide)) hk (fun _ h => h.2)) (fun _ h => h.1)); replace BK633 := Aside0.mk (KeepBut.blk hk (g' := gb633) (o := .cells #[.slice Ao60 t662.length co60, .int .i64 t665, .string t666] 31 (0, 0)) (kq_ BK633) NB633_606.out (by simp)); replace HB := Aside0.mk hb; replace HI606 := Aside0.mk hi; clear hb hk hi))
   replace HO614 := Aside0.mk (Kd.R_drew HO614.out)
   replace HO630 := Aside0.mk (Kd.R_drew HO630.out)
   replace HO636 := Aside0.mk (Kd.R_drew HO636.out)
   replace HO658 := Aside0.mk (Kd.R_drew HO658.out)
   replace HO664 := Aside0.mk (Kd.R_drew HO664.out)
   replace BK601 := Aside0.mk (blk_drew BK601.out)
   replace BK602 := Aside0.mk (blk_drew BK602.out)
   replace BK633 := Aside0.mk (blk_drew BK633.out)
   replace BK648 := Aside0.mk (blk_drew BK648.out)
   replace HI606 := Aside0.mk (IsS111.drew HI606.out)
   replace HB := Aside0.mk (below_drew1 HB.out)
   refine start_ (n := 8) (S := fun w' => w'.cell? ⟨gb633, 0, none⟩ = some (.slice Ao60 t662.length co60) ∧ w'.cell? ⟨gb633, 1, none⟩ = some (.int .i64 t665) ∧ w'.cell? ⟨gb633, 2, none⟩ = some (.string t666) ∧ w'.cell? ⟨gb648, 0, none⟩ = some (.int .i64 t646) ∧ w'.cell? ⟨gb648, 1, none⟩ = some (.string t647)) (ds := []) (lz_ 8 0) (by kernel_rfl) rfl rfl ⟨bc0_ BK633.out, bc1_ BK633.out, bc2_ BK633.out, bc0_ BK648.out, bc1_ BK648.out⟩ (fun hHeld => ?_); refine with_tabW spec_DrawExtend.tab26 spec_DrawExtend.bits26 (fun HT_ HW_ => ?_)
   generalize w62.drew = w63 at HO614 HO630 HO636 HO658 HO664 BK601 BK602 BK633 BK648 HI606 HB hHeld ⊢
   refine pt_ 1 96 2 ?_
   refine pt_ 3 98 10 ?_
   refine tt_ 0 95 11 ?_
   refine tt_ 2 97 15 ?_
   refine one_ (i := 4) (N := none) (lz_ 8 31) rfl rfl (one_of HT_.out (by kernel_rfl)) (by decide) (fun K hK => ?_)
   have hs64 := bc0_ BK601.out
   have hfs64 := blk_frozen BK601.out 0
   have hns64_1 := NB602_601.out
   have hns64_2 := NB633_601.out
   have hns64_3 := NB648_601.out
   have hms64_1 := NB601_602.out
   have hms64_2 := NB601_633.out
   have hms64_3 := NB601_648.out
   have hs65 := bc1_ BK601.out
   have hfs65 := blk_frozen BK601.out 1
   have hns65_1 := NB602_601.out
   have hns65_2 := NB633_601.out
   have hns65_3 := NB648_601.out
   have hms65_1 := NB601_602.out
   have hms65_2 := NB601_633.out
   have hms65_3 := NB601_648.out
   have hs66 := bc2_ BK601.out
   have hfs66 := blk_frozen BK601.out 2
   have hns66_1 := NB602_601.out
   have hns66_2 := NB633_601.out
   have hns66_3 := NB648_601.out
   have hms66_1 := NB601_602.out
   have hms66_2 := NB601_633.out
   have hms66_3 := NB601_648.out
   refine skip_ (w1 := ?_) (by rfl) rfl ?_ ?_
   rotate_left
   ·go_simp
    rfl
   refine hK.out _ _ ⟨((cell_far (p := ⟨gb601, _, none⟩) NB633_601.out _).trans (((cell_far (p := ⟨gb601, _, none⟩) NB633_601.out _).trans (((cell_far (p := ⟨gb601, _, none⟩) NB633_601.out _).trans (hHeld.1)))))), ((cell_far (p := ⟨gb601, _, none⟩) NB633_601.out _).trans (((cell_far (p := ⟨gb601, _, none⟩) NB633_601.out _).trans (((cell_far (p := ⟨gb601, _, none⟩) NB633_601.out _).trans (hHeld.2.1)))))), ((cell_far (p := ⟨gb601, _, none⟩) NB633_601.out _).trans (((cell_far (p := ⟨gb601, _, none⟩) NB633_601.out _).trans (((cell_far (p := ⟨gb601, _, none⟩) NB633_601.out _).trans (hHeld.2.2.1)))))), ((cell_far (p := ⟨gb601, _, none⟩) NB648_601.out _).trans (((cell_far (p := ⟨gb601, _, none⟩) NB648_601.out _).trans (((cell_far (p := ⟨gb601, _, none⟩) NB648_601.out _).trans (hHeld.2.2.2.1)))))), ((cell_far (p := ⟨gb601, _, none⟩) NB648_601.out _).trans (((cell_far (p := ⟨gb601, _, none⟩) NB648_601.out _).trans (((cell_far (p := ⟨gb601, _, none⟩) NB648_601.out _).trans (hHeld.2.2.2.2))))))⟩ (fun hHeld => ?_)
   clear hK K
   refine pt_ 5 3 63 ?_
   refine one_ (i := 6) (N := none) (lz_ 8 127) rfl rfl (one_of HT_.out (by kernel_rfl)) (by decide) (fun K hK => ?_)
   have hs67 := bc0_ BK602.out
   have hfs67 := blk_frozen BK602.out 0
   have hns67_0 := NB601_602.out
   have hns67_2 := NB633_602.out
   have hns67_3 := NB648_602.out
   have hms67_0 := NB602_601.out
   have hms67_2 := NB602_633.out
   have hms67_3 := NB602_648.out
   have hs68 := bc1_ BK602.out
   have hfs68 := blk_frozen BK602.out 1
   have hns68_0 := NB601_602.out
   have hns68_2 := NB633_602.out
   have hns68_3 := NB648_602.out
   have hms68_0 := NB602_601.out
   have hms68_2 := NB602_633.out
   have hms68_3 := NB602_648.out
   refine skip_ (w1 := ?_) (by rfl) rfl ?_ ?_
   rotate_left
   ·go_simp
    rfl
   refine hK.out _ _ ⟨((cell_far (p := ⟨gb602, _, none⟩) NB633_602.out _).trans (((cell_far (p := ⟨gb602, _, none⟩) NB633_602.out _).trans (hHeld.1)))), ((cell_far (p := ⟨gb602, _, none⟩) NB633_602.out _).trans (((cell_far (p := ⟨gb602, _, none⟩) NB633_602.out _).trans (hHeld.2.1)))), ((cell_far (p := ⟨gb602, _, none⟩) NB633_602.out _).trans (((cell_far (p := ⟨gb602, _, none⟩) NB633_602.out _).trans (hHeld.2.2.1)))), ((cell_far (p := ⟨gb602, _, none⟩) NB648_602.out _).trans (((cell_far (p := ⟨gb602, _, none⟩) NB648_602.out _).trans (hHeld.2.2.2.1)))), ((cell_far (p := ⟨gb602, _, none⟩) NB648_602.out _).trans (((cell_far (p := ⟨gb602, _, none⟩) NB648_602.out _).trans (hHeld.2.2.2.2))))⟩ (fun hHeld => ?_)
   clear hK K
   refine pt_ 7 5 255 ?_
   refine done_ (done_of HT_.out (by kernel_rfl)) ?_
   try go_wp2
   refine bodyPost_ret (results_list (rs := [.cell 2 31, .tmp 3, .cell 4 28, .tmp 5]) rfl (by simp) (.cell gb601 31 #[.slice Ao60 t662.length co60, .int .i64 t665, .string t666] (0, 0) _ rfl (by exact kq_ BK601) Try.underlying31 rfl (by kernel_rfl) (.tmp (.cell gb602 28 #[.int .i64 t646, .string t647] (0, 0) _ rfl (by exact kq_ BK602) Try.underlying28 rfl (by kernel_rfl) (.tmp .nil))))) rfl ?_
   exact ⟨_, _, _, by first | rfl | (simp [errW_none, errW_some] <;> rfl) | (simp only [← hji12]; first | rfl | (simp [errW_none, errW_some] <;> rfl)) | (simp [*, errW_none, errW_some] <;> rfl), by (with_reducible repeat (first | apply Kd.R_alloc | apply Kd.R_drewN | apply Kd.R_drew)); exact Kd.R_mono (Kd.R_far (p := ⟨gb602, 1, none⟩) (Kd.R_far (p := ⟨gb602, 0, none⟩) (Kd.R_far (p := ⟨gb601, 2, none⟩) (Kd.R_far (p := ⟨gb601, 1, none⟩) (Kd.R_far (p := ⟨gb601, 0, none⟩) (Kd.R_types (Kd.R_types HO664.out BK601.out (by decide)) BK602.out (by decide)) (fun _ hk => hk.1.2) (.slice Ao60 t662.length co60)) (fun _ hk => hk.1.2) (.int .i64 t665)) (fun _ hk => hk.1.2) (.string t666)) (fun _ hk => hk.2) (.int .i64 t646)) (fun _ hk => hk.2) (.string t647)) (fun _ hk => hk.1.1.2), by (with_reducible repeat (first | apply Kd.R_alloc | apply Kd.R_drewN | apply Kd.R_drew)); exact Kd.R_mono (Kd.R_far (p := ⟨gb602, 1, none⟩) (Kd.R_far (p := ⟨gb602, 0, none⟩) (Kd.R_far (p := ⟨gb601, 2, none⟩) (Kd.R_far (p := ⟨gb601, 1, none⟩) (Kd.R_far (p := ⟨gb601, 0, none⟩) (Kd.R_mono (Kd.R_types HO636.out BK601.out (by decide)) (fun k_ hk => (⟨hk, hk.1.1.2⟩ : _ ∧ k_ ≠ gb602))) (fun _ hk => hk.1.2) (.slice Ao60 t662.length co60)) (fun _ hk => hk.1.2) (.int .i64 t665)) (fun _ hk => hk.1.2) (.string t666)) (fun _ hk => hk.2) (.int .i64 t646)) (fun _ hk => hk.2) (.string t647)) (fun _ hk => trivial), by (with_reducible repeat (first | apply Kd.R_alloc | apply Kd.R_drewN | apply Kd.R_drew)); exact Kd.R_mono (Kd.R_far (p := ⟨gb602, 1, none⟩) (Kd.R_far (p := ⟨gb602, 0, none⟩) (Kd.R_far (p := ⟨gb601, 2, none⟩) (Kd.R_far (p := ⟨gb601, 1, none⟩) (Kd.R_far (p := ⟨gb601, 0, none⟩) (Kd.R_types (Kd.R_types HO658.out BK601.out (by decide)) BK602.out (by decide)) (fun _ hk => hk.1.2) (.slice Ao60 t662.length co60)) (fun _ hk => hk.1.2) (.int .i64 t665)) (fun _ hk => hk.1.2) (.string t666)) (fun _ hk => hk.2) (.int .i64 t646)) (fun _ hk => hk.2) (.string t647)) (fun _ hk => hk.1.1.2), by repeat (first | (with_reducible first | exact HB.out | apply below_alloc | apply pw_below_drewN | apply below_drew1 | refine below_set ?_ (IsS111.ge HI606.out) | refine below_set ?_ GE601.out | refine below_set ?_ GE602.out | refine below_set ?_ GE633.out | refine below_set ?_ GE648.out) | exact HB.out)⟩
  ·replace H := ip_ H; obtain ⟨c69, H⟩ := H
   have LMc69 := Aside0.mk c69
   clear c69
   obtain ⟨y672, hy672⟩ : ∃ y_ : List (S28), y_ = (t634 ++ [(⟨t646, t647⟩ : S28)]) := ⟨_, rfl⟩
   replace H : (some (t662, t665, t666, y672, t646, t647, y656)) = some (r1, r2, r3, r4, r5, r6, r7) := yh_ hy672 H
   have Ny672 := Aside0.mk hy672
   clear hy672
   replace H := so7_ H; obtain ⟨rfl, rfl, rfl, rfl, rfl, rfl, rfl⟩ := H
   try go_wp2_with (first | ((with_reducible refine gk_ 73 ?_); refine gl_ 57 Try.func73 #[.pointer (some ⟨g606, 0, none⟩)] ?_; (with_reducible refine (spec_l11Any.calls k g606 t603 t660 t661 t662 t665 t666 t667 t668 w _ ?side1 ?side2 A22.out).mono ?_); (case side1 => exact in4x_ HI606 NB606_601 NB606_602 NB606_633 NB606_648); (case side2 => repeat (first | (with_reducible first | exact HB.out | apply below_alloc | apply pw_below_drewN | apply below_drew1 | refine below_set ?_ (IsS111.ge HI606.out) | refine below_set ?_ GE601.out | refine below_set ?_ GE602.out | refine below_set ?_ GE633.out | refine below_set ?_ GE648.out) | exact HB.out)); rintro e w104 ⟨v663, rfl, ho0, hi, hb, hk⟩; refine ⟨_, rfl, ?_⟩; replace BK601 := Aside0.mk (KeepBut.blk hk (g' := gb601) (o := .cells #[.slice none 0 0, .int .i64 0, .string (⟨#[]⟩ : ByteArray)] 31 (0, 0)) (kb_ BK601.out) NB601_606.out (by simp)); replace BK602 := Aside0.mk (KeepBut.blk hk (g' := gb602) (o := .cells #[.int .i64 0, .string (⟨#[]⟩ : ByteArray)] 28 (0, 0)) (kb_ BK602.out) NB602_606.out (by simp)); replace BK633 := Aside0.mk (KeepBut.blk hk (g' := gb633) (o := .cells #[.slice Ao39 t628.length co39, .int .i64 t631, .string t632] 31 (0, 0)) (kb_ BK633.out) NB633_606.out (by simp)); replace HO636 := Aside0.mk (Kd.R_mono (Kd.R_keep (IsS111.apart (show IsS111 w _ g606 t603 t660 t661 from in4x_ HI606 NB606_601 NB606_602 NB606_633 NB606_648) (kr_ HO636.out) (by decide)) hk (fun _ h => h.2)) (fun _ h => h.1)); replace BK648 := Aside0.mk (KeepBut.blk hk (g' := gb648) (o := .cells #[.int .i64 t646, .string t647] 28 (0, 0)) (kb_ BK648.out) NB648_606.out (by simp)); have HO664 := Aside0.mk (Kd.R_lower (Kd.R_new' (Kd.R_new' (Kd.R_new' ho0 (lt_ HO614)) (lt_ HO630)) (lt_ HO658)) (below_size (bs5_ HB (IsS111.ge HI606.out) GE601.out GE602.out GE633.out GE648.out))); replace HO614 := Aside0.mk (Kd.R_mono (Kd.R_told (Kd.R_oldK (IsS111.apart (show IsS111 w _ g606 t603 t660 t661 from in4x_ HI606 NB606_601 NB606_602 NB606_633 NB606_648) (kr_ HO614.out) (by decide)) hk) (Kd.R_base ho0)) (fun _ h_ => h_.1)); replace HO630 := Aside0.mk (Kd.R_mono (Kd.R_told (Kd.R_oldK (IsS111.apart (show IsS111 w _ g606 t603 t660 t661 from in4x_ HI606 NB606_601 NB606_602 NB606_633 NB606_648) (kr_ HO630.out) (by decide)) hk) (Kd.R_base ho0)) (fun _ h_ => h_.1)); replace HO658 := Aside0.mk (Kd.R_mono (Kd.R_told (Kd.R_oldK (IsS111.apart (show IsS111 w _ g606 t603 t660 t661 from in4x_ HI606 NB606_601 NB606_602 NB606_633 NB606_648) (kr_ HO658.out) (by decide)) hk) (Kd.R_base ho0)) (fun _ h_ => h_.1)); replace HB := Aside0.mk hb; replace HI606 := Aside0.mk hi; clear hb hk hi ho0; obtain ⟨Ao105, co105, eo105⟩ := Kd.R_slice HO664.out; subst eo105; have hz106 := cz3_ BK633) | ((with_reducible refine gk_ 75 ?_); refine gl_ 89 Try.func75 #[.pointer (some ⟨g606, 0, none⟩), .int .i64 3] ?_; (with_reducible refine (spec_l1Once.calls g606 t603 t667 t668 3 false t670 t671 w _ ?side1 ?side2 A23.out).mono ?_); (case side1 => exact in4x_ HI606 NB606_601 NB606_602 NB606_633 NB606_648); (case side2 => repeat (first | (with_reducible first | exact HB.out | apply below_alloc | apply pw_below_drewN | apply below_drew1 | refine below_set ?_ (IsS111.ge HI606.out) | refine below_set ?_ GE601.out | refine below_set ?_ GE602.out | refine below_set ?_ GE633.out | refine below_set ?_ GE648.out) | exact HB.out)); rintro e w107 ⟨rfl, hi, hb, hk⟩; refine ⟨_, rfl, ?_⟩; replace BK601 := Aside0.mk (KeepBut.blk hk (g' := gb601) (o := .cells #[.slice none 0 0, .int .i64 0, .string (⟨#[]⟩ : ByteArray)] 31 (0, 0)) (kq_ BK601) NB601_606.out (by simp)); replace BK602 := Aside0.mk (KeepBut.blk hk (g' := gb602) (o := .cells #[.int .i64 0, .string (⟨#[]⟩ : ByteArray)] 28 (0, 0)) (kq_ BK602) NB602_606.out (by simp)); replace HO614 := Aside0.mk (Kd.R_mono (Kd.R_keep (IsS111.apart (show IsS111 w _ g606 t603 t667 t668 from in4x_ HI606 NB606_601 NB606_602 NB606_633 NB606_648) (kf_ HO614 BK633) (by decide)) hk (fun _ h => h.2)) (fun _ h => h.1)); replace HO630 := Aside0.mk (Kd.R_mono (Kd.R_keep (IsS111.apart (show IsS111 w _ g606 t603 t667 t668 from in4x_ HI606 NB606_601 NB606_602 NB606_633 NB606_648) (kf_ HO630 BK633) (by decide)) hk (fun _ h => h.2)) (fun _ h => h.1)); replace HO636 := Aside0.mk (Kd.R_mono (Kd.R_keep (IsS111.apart (show IsS111 w _ g606 t603 t667 t668 from in4x_ HI606 NB606_601 NB606_602 NB606_633 NB606_648) (kf_ HO636 BK633) (by decide)) hk (fun _ h => h.2)) (fun _ h => h.1)); replace BK648 := Aside0.mk (KeepBut.blk hk (g' := gb648) (o := .cells #[.int .i64 t646, .string t647] 28 (0, 0)) (kq_ BK648) NB648_606.out (by simp)); replace HO658 := Aside0.mk (Kd.R_mono (Kd.R_keep (IsS111.apart (show IsS111 w _ g606 t603 t667 t668 from in4x_ HI606 NB606_601 NB606_602 NB606_633 NB606_648) (kf_ HO658 BK633) (by decide)) hk (fun _ h => h.2)) (fun _ h => h.1)); replace HO664 := Aside0.mk (Kd.R_mono (Kd.R_keep (IsS111.apart (show IsS111 w _ g606 t603 t667 t668 from in4x_ HI606 NB606_601 NB606_602 NB606_633 NB606_648) (kf_ HO664 BK633) (by decide)) hk (fun _ h => h.2)) (fun _ h => h.1)); replace BK633 := Aside0.mk (KeepBut.blk hk (g' := gb633) (o := .cells #[.slice Ao105 t662.length co105, .int .i64 t665, .string t666] 31 (0, 0)) (kq_ BK633) NB633_606.out (by simp)); replace HB := Aside0.mk hb; replace HI606 := Aside0.mk hi; clear hb hk hi; have hz108 := cz2_ BK648) | ((with_reducible refine gate_builtin (b := .append) (xs := #[.tmp 91, .tmp 93]) rfl ?_); at_builtin; refine Kd.R_append k28 (w0 := w) w.heap.size rfl (.tmp 91) (.tmp 93) 35 28 (.agg #[(.int .i64 0), (.string ⟨#[]⟩)]) 24 rfl Try.underlying35 info28 rfl (by decide) (by omega) v635 t634 (⟨t646, t647⟩ : S28) [.int .i64 t646, .string t647] (fun k_ => k_ ≠ gb602 ∧ k_ ≠ gb648) (fun _ => False) rfl rfl ?aP (fun _ hk => hk.elim) ?aF ?aO ?aB ?aS ?aL ?_; (case aP => exact k28_mkM _ _ _ (⟨t646, t647⟩ : S28)); (case aB => exact (bs5_ HB (IsS111.ge HI606.out) GE601.out GE602.out GE633.out GE648.out)); (case aF => exact (fun k_ hk => ⟨Kd.freshB (kb_ BK602.out) k_ hk, Kd.freshB (kb_ BK648.out) k_ hk⟩)); (case aO => exact (kr_ (Kd.R_mono HO636.out (fun _ hk => ⟨hk.1.2, hk.2⟩)))); (case aS => exact (below_size (bs5_ HB (IsS111.ge HI606.out) GE601.out GE602.out GE633.out GE648.out))); (case aL => have := LMc69.out; omega); intro v673 w109 ho hb hg hat; rw [← Ny672.out] at ho; replace BK601 := kg_ BK601 HO636 hg; replace BK602 := Aside0.mk (blk_grown (kb_ BK602.out) hg (Kd.R_away HO636.out (fun _ hk => hk.1.2))); replace HI606 := Aside0.mk (IsS111.grown (in4x_ HI606 NB606_601 NB606_602 NB606_633 NB606_648) hg (IsS111.own_ne HI606.out HO636.out (by decide))); replace HO614 := Aside0.mk (Kd.R_over' (kr_ HO614.out) (Kd.R_typed (kr_ HO636.out)) (by decide) hg); replace HO630 := Aside0.mk (Kd.R_over' (kr_ HO630.out) (Kd.R_typed (kr_ HO636.out)) (by decide) hg); replace BK633 := kg_ BK633 HO636 hg; replace BK648 := Aside0.mk (blk_grown (kb_ BK648.out) hg (Kd.R_away HO636.out (fun _ hk => hk.2))); replace HO658 := Aside0.mk (Kd.R_over' (kr_ HO658.out) (Kd.R_typed (kr_ HO636.out)) (by decide) hg); replace HO664 := Aside0.mk (Kd.R_over' (kr_ HO664.out) (Kd.R_typed (kr_ HO636.out)) (by decide) hg); replace HB := Aside0.mk hb; have HO674 := Aside0.mk ho; clear HO636; clear ho hb hg hat))
   replace HO614 := Aside0.mk (Kd.R_drew HO614.out)
   replace HO630 := Aside0.mk (Kd.R_drew HO630.out)
   replace HO658 := Aside0.mk (Kd.R_drew HO658.out)
   replace HO664 := Aside0.mk (Kd.R_drew HO664.out)
   replace HO674 := Aside0.mk (Kd.R_drew HO674.out)
   replace BK601 := Aside0.mk (blk_drew BK601.out)
   replace BK602 := Aside0.mk (blk_drew BK602.out)
   replace BK633 := Aside0.mk (blk_drew BK633.out)
   replace BK648 := Aside0.mk (blk_drew BK648.out)
   replace HI606 := Aside0.mk (IsS111.drew HI606.out)
   replace HB := Aside0.mk (below_drew1 HB.out)
   refine start_ (n := 8) (S := fun w' => w'.cell? ⟨gb633, 0, none⟩ = some (.slice Ao105 t662.length co105) ∧ w'.cell? ⟨gb633, 1, none⟩ = some (.int .i64 t665) ∧ w'.cell? ⟨gb633, 2, none⟩ = some (.string t666) ∧ w'.cell? ⟨gb648, 0, none⟩ = some (.int .i64 t646) ∧ w'.cell? ⟨gb648, 1, none⟩ = some (.string t647)) (ds := []) (lz_ 8 0) (by kernel_rfl) rfl rfl ⟨bc0_ BK633.out, bc1_ BK633.out, bc2_ BK633.out, bc0_ BK648.out, bc1_ BK648.out⟩ (fun hHeld => ?_); refine with_tabW spec_DrawExtend.tab26 spec_DrawExtend.bits26 (fun HT_ HW_ => ?_)
   generalize w109.drew = w110 at HO614 HO630 HO658 HO664 HO674 BK601 BK602 BK633 BK648 HI606 HB hHeld ⊢
   refine pt_ 1 96 2 ?_
   refine pt_ 3 98 10 ?_
   refine tt_ 0 95 11 ?_
   refine tt_ 2 97 15 ?_
   refine one_ (i := 4) (N := none) (lz_ 8 31) rfl rfl (one_of HT_.out (by kernel_rfl)) (by decide) (fun K hK => ?_)
   have hs111 := bc0_ BK601.out
   have hfs111 := blk_frozen BK601.out 0
   have hns111_1 := NB602_601.out
   have hns111_2 := NB633_601.out
   have hns111_3 := NB648_601.out
   have hms111_1 := NB601_602.out
   have hms111_2 := NB601_633.out
   have hms111_3 := NB601_648.out
   have hs112 := bc1_ BK601.out
   have hfs112 := blk_frozen BK601.out 1
   have hns112_1 := NB602_601.out
   have hns112_2 := NB633_601.out
   have hns112_3 := NB648_601.out
   have hms112_1 := NB601_602.out
   have hms112_2 := NB601_633.out
   have hms112_3 := NB601_648.out
   have hs113 := bc2_ BK601.out
   have hfs113 := blk_frozen BK601.out 2
   have hns113_1 := NB602_601.out
   have hns113_2 := NB633_601.out
   have hns113_3 := NB648_601.out
   have hms113_1 := NB601_602.out
   have hms113_2 := NB601_633.out
   have hms113_3 := NB601_648.out
   refine skip_ (w1 := ?_) (by rfl) rfl ?_ ?_
   rotate_left
   ·go_simp
    rfl
   refine hK.out _ _ ⟨((cell_far (p := ⟨gb601, _, none⟩) NB633_601.out _).trans (((cell_far (p := ⟨gb601, _, none⟩) NB633_601.out _).trans (((cell_far (p := ⟨gb601, _, none⟩) NB633_601.out _).trans (hHeld.1)))))), ((cell_far (p := ⟨gb601, _, none⟩) NB633_601.out _).trans (((cell_far (p := ⟨gb601, _, none⟩) NB633_601.out _).trans (((cell_far (p := ⟨gb601, _, none⟩) NB633_601.out _).trans (hHeld.2.1)))))), ((cell_far (p := ⟨gb601, _, none⟩) NB633_601.out _).trans (((cell_far (p := ⟨gb601, _, none⟩) NB633_601.out _).trans (((cell_far (p := ⟨gb601, _, none⟩) NB633_601.out _).trans (hHeld.2.2.1)))))), ((cell_far (p := ⟨gb601, _, none⟩) NB648_601.out _).trans (((cell_far (p := ⟨gb601, _, none⟩) NB648_601.out _).trans (((cell_far (p := ⟨gb601, _, none⟩) NB648_601.out _).trans (hHeld.2.2.2.1)))))), ((cell_far (p := ⟨gb601, _, none⟩) NB648_601.out _).trans (((cell_far (p := ⟨gb601, _, none⟩) NB648_601.out _).trans (((cell_far (p := ⟨gb601, _, none⟩) NB648_601.out _).trans (hHeld.2.2.2.2))))))⟩ (fun hHeld => ?_)
   clear hK K
   refine pt_ 5 3 63 ?_
   refine one_ (i := 6) (N := none) (lz_ 8 127) rfl rfl (one_of HT_.out (by kernel_rfl)) (by decide) (fun K hK => ?_)
   have hs114 := bc0_ BK602.out
   have hfs114 := blk_frozen BK602.out 0
   have hns114_0 := NB601_602.out
   have hns114_2 := NB633_602.out
   have hns114_3 := NB648_602.out
   have hms114_0 := NB602_601.out
   have hms114_2 := NB602_633.out
   have hms114_3 := NB602_648.out
   have hs115 := bc1_ BK602.out
   have hfs115 := blk_frozen BK602.out 1
   have hns115_0 := NB601_602.out
   have hns115_2 := NB633_602.out
   have hns115_3 := NB648_602.out
   have hms115_0 := NB602_601.out
   have hms115_2 := NB602_633.out
   have hms115_3 := NB602_648.out
   refine skip_ (w1 := ?_) (by rfl) rfl ?_ ?_
   rotate_left
   ·go_simp
    rfl
   refine hK.out _ _ ⟨((cell_far (p := ⟨gb602, _, none⟩) NB633_602.out _).trans (((cell_far (p := ⟨gb602, _, none⟩) NB633_602.out _).trans (hHeld.1)))), ((cell_far (p := ⟨gb602, _, none⟩) NB633_602.out _).trans (((cell_far (p := ⟨gb602, _, none⟩) NB633_602.out _).trans (hHeld.2.1)))), ((cell_far (p := ⟨gb602, _, none⟩) NB633_602.out _).trans (((cell_far (p := ⟨gb602, _, none⟩) NB633_602.out _).trans (hHeld.2.2.1)))), ((cell_far (p := ⟨gb602, _, none⟩) NB648_602.out _).trans (((cell_far (p := ⟨gb602, _, none⟩) NB648_602.out _).trans (hHeld.2.2.2.1)))), ((cell_far (p := ⟨gb602, _, none⟩) NB648_602.out _).trans (((cell_far (p := ⟨gb602, _, none⟩) NB648_602.out _).trans (hHeld.2.2.2.2))))⟩ (fun hHeld => ?_)
   clear hK K
   refine pt_ 7 5 255 ?_
   refine done_ (done_of HT_.out (by kernel_rfl)) ?_
   try go_wp2
   refine bodyPost_ret (results_list (rs := [.cell 2 31, .tmp 3, .cell 4 28, .tmp 5]) rfl (by simp) (.cell gb601 31 #[.slice Ao105 t662.length co105, .int .i64 t665, .string t666] (0, 0) _ rfl (by exact kq_ BK601) Try.underlying31 rfl (by kernel_rfl) (.tmp (.cell gb602 28 #[.int .i64 t646, .string t647] (0, 0) _ rfl (by exact kq_ BK602) Try.underlying28 rfl (by kernel_rfl) (.tmp .nil))))) rfl ?_
   exact ⟨_, _, _, by first | rfl | (simp [errW_none, errW_some] <;> rfl) | (simp only [← hji12]; first | rfl | (simp [errW_none, errW_some] <;> rfl)) | (simp [*, errW_none, errW_some] <;> rfl), by (with_reducible repeat (first | apply Kd.R_alloc | apply Kd.R_drewN | apply Kd.R_drew)); exact Kd.R_mono (Kd.R_far (p := ⟨gb602, 1, none⟩) (Kd.R_far (p := ⟨gb602, 0, none⟩) (Kd.R_far (p := ⟨gb601, 2, none⟩) (Kd.R_far (p := ⟨gb601, 1, none⟩) (Kd.R_far (p := ⟨gb601, 0, none⟩) (Kd.R_types (Kd.R_types HO664.out BK601.out (by decide)) BK602.out (by decide)) (fun _ hk => hk.1.2) (.slice Ao105 t662.length co105)) (fun _ hk => hk.1.2) (.int .i64 t665)) (fun _ hk => hk.1.2) (.string t666)) (fun _ hk => hk.2) (.int .i64 t646)) (fun _ hk => hk.2) (.string t647)) (fun _ hk => hk.1.1.2), by (with_reducible repeat (first | apply Kd.R_alloc | apply Kd.R_drewN | apply Kd.R_drew)); exact Kd.R_mono (Kd.R_far (p := ⟨gb602, 1, none⟩) (Kd.R_far (p := ⟨gb602, 0, none⟩) (Kd.R_far (p := ⟨gb601, 2, none⟩) (Kd.R_far (p := ⟨gb601, 1, none⟩) (Kd.R_far (p := ⟨gb601, 0, none⟩) (Kd.R_mono (Kd.R_types HO674.out BK601.out (by decide)) (fun k_ hk => (⟨hk, hk.1.1⟩ : _ ∧ k_ ≠ gb602))) (fun _ hk => hk.1.2) (.slice Ao105 t662.length co105)) (fun _ hk => hk.1.2) (.int .i64 t665)) (fun _ hk => hk.1.2) (.string t666)) (fun _ hk => hk.2) (.int .i64 t646)) (fun _ hk => hk.2) (.string t647)) (fun _ hk => trivial), by (with_reducible repeat (first | apply Kd.R_alloc | apply Kd.R_drewN | apply Kd.R_drew)); exact Kd.R_mono (Kd.R_far (p := ⟨gb602, 1, none⟩) (Kd.R_far (p := ⟨gb602, 0, none⟩) (Kd.R_far (p := ⟨gb601, 2, none⟩) (Kd.R_far (p := ⟨gb601, 1, none⟩) (Kd.R_far (p := ⟨gb601, 0, none⟩) (Kd.R_types (Kd.R_types HO658.out BK601.out (by decide)) BK602.out (by decide)) (fun _ hk => hk.1.2) (.slice Ao105 t662.length co105)) (fun _ hk => hk.1.2) (.int .i64 t665)) (fun _ hk => hk.1.2) (.string t666)) (fun _ hk => hk.2) (.int .i64 t646)) (fun _ hk => hk.2) (.string t647)) (fun _ hk => hk.1.1.2), by repeat (first | (with_reducible first | exact HB.out | apply below_alloc | apply pw_below_drewN | apply below_drew1 | refine below_set ?_ (IsS111.ge HI606.out) | refine below_set ?_ GE601.out | refine below_set ?_ GE602.out | refine below_set ?_ GE633.out | refine below_set ?_ GE648.out) | exact HB.out)⟩
 ·have c21b0 : (t659 == 0) = false := beq_eq_false_iff_ne.mpr c21
  have c21b1 : (t659 != 0) = true := bne_iff_ne.mpr c21
  replace H := it_ H; obtain ⟨c116, H⟩ | ⟨c116, H⟩ := H
  ·have c116b0 : (t659 == 1) = true := beq_iff_eq.mpr c116
   have c116b1 : (t659 != 1) = false := bne_eq_false_iff_eq.mpr c116
   clear c116
   replace H := ip_ H; obtain ⟨c117, H⟩ := H
   have c117b0 := decide_eq_true c117
   have c117b1 : decide (0 < y656.length) = true := decide_eq_true (by omega)
   clear c117
   obtain ⟨y675, Ny675, H⟩ := sb_ (y656.set (0 : Int).toNat (⟨#[98, 101, 110, 116]⟩ : ByteArray)) H
   replace H := bi_ H; obtain ⟨⟨t676, t677, t678⟩, A119, H⟩ := H
   dsimp only at H
   replace H := itb_ H; obtain ⟨rfl, H⟩ | ⟨rfl, H⟩ := H
   ·replace H := so7_ H; obtain ⟨rfl, rfl, rfl, rfl, rfl, rfl, rfl⟩ := H
    have p118 : 0 ≤ (0 : Int) := (by omega); have q118 : (0 : Int) < ((y656.length : Int) : Int) := of_decide_eq_true as_; have qi118 : (0 < y656.length) = True := eq_true (by omega); obtain ⟨go118, co118, eo118, gb118, gl118, cl118, HG118⟩ := Kd.R_form HO658.out (by omega); (first | cases eo118 | (injection eo118 with ea_ en_ ec_; (first | subst ea_ | (injection ea_ with ea_; subst ea_)); subst ec_; clear en_)); have GB118 := Aside0.mk gb118; have GG118 := Aside0.mk HG118; clear gb118 gl118 HG118; obtain ⟨hx118_0, hf118_0⟩ := Kd.R_celln (⟨#[]⟩ : ByteArray) HO658.out (0 : Int) p118 q118; (try rw [show ((0 : Int)).toNat = 0 from rfl] at hx118_0); (try simp only [Nat.reduceMul, Nat.zero_mul, Nat.zero_add, Nat.reduceAdd] at hx118_0); (try rw [show ((0 : Int)).toNat = 0 from rfl] at hf118_0); (try simp only [Nat.reduceMul, Nat.zero_mul, Nat.zero_add, Nat.reduceAdd] at hf118_0); replace p118 := eq_true p118; replace q118 := eq_true q118; obtain ⟨hy155_, hz155_⟩ := Kd.R_celln (⟨#[]⟩ : ByteArray) HO658.out (0 : Int) (by omega) (of_decide_eq_true as_); (try simp only [Int.reduceToNat, Int.toNat_zero, Int.toNat_ofNat, Nat.reduceMul, Nat.zero_mul, Nat.zero_add] at hy155_ hz155_); (try rw [show ((0 : Int)).toNat = 0 from rfl] at hy155_); (try rw [show ((0 : Int)).toNat = 0 from rfl] at hz155_); have HP155 := Kd.R_putg HO658.out (0 : Int) (⟨#[98, 101, 110, 116]⟩ : ByteArray)
    try go_wp2_with (first | ((with_reducible refine gate_store (t := 9) (p := 61) rfl ?_); refine store_event (t := 9) (p := 61) (v := ?vo_w156) (w1 := (w58.setCell ⟨go118, (0 : Int).toNat, none⟩ (.string (⟨#[98, 101, 110, 116]⟩ : ByteArray)))) ?hg ?ho ?hn ?hr ?_; (case ho => rfl); (case hg => rfl); (case hn => rfl); (case hr => first | (go_simp; done) | (go_simp; rfl)); intro w156 hw; have hg : w58.grownBy w156 (some go118) := (by rw [hw]; exact HP155.2); have hp_ : Kd.R Kd.string 9 w156 w.heap.size (fun k_ => some k_ ≠ (.slice Ao30 y612.length co30 : Value).ownBlock ∧ some k_ ≠ (.slice Ao39 t628.length co39 : Value).ownBlock) (.slice (some ⟨go118, 0, none⟩) y656.length co118) y675 := (by rw [hw, Ny675.out]; exact HP155.1); clear HP155; replace BK601 := kg_ BK601 HO658 hg; replace BK602 := kg_ BK602 HO658 hg; replace HI606 := Aside0.mk (IsS111.grown (in4x_ HI606 NB606_601 NB606_602 NB606_633 NB606_648) hg (IsS111.own_ne HI606.out HO658.out (by decide))); replace HO614 := Aside0.mk (Kd.R_after (v := (.slice (some ⟨go118, 0, none⟩) y656.length co118)) (v1 := (.slice (some ⟨go118, 0, none⟩) y656.length co118)) (ok := (fun k_ => some k_ ≠ (.slice Ao39 t628.length co39 : Value).ownBlock)) (kr_ HO614.out) hg (.inl rfl)); replace HO630 := Aside0.mk (Kd.R_after (v := (.slice (some ⟨go118, 0, none⟩) y656.length co118)) (v1 := (.slice (some ⟨go118, 0, none⟩) y656.length co118)) (ok := (fun k_ => some k_ ≠ (.slice Ao30 y612.length co30 : Value).ownBlock)) (kr_ HO630.out) hg (.inl rfl)); replace BK633 := kg_ BK633 HO658 hg; replace HO636 := Aside0.mk (Kd.R_over' (v := (.slice (some ⟨go118, 0, none⟩) y656.length co118)) (kr_ HO636.out) (Kd.R_typed HO658.out) (by decide) hg); replace BK648 := kg_ BK648 HO658 hg; replace HO658 := Aside0.mk hp_; replace HB := Aside0.mk ((by rw [hw]; exact below_set (HB.out) GB118.out : Below w.heap.size w w156)); clear hg hw hp_) | ((with_reducible refine gk_ 75 ?_); refine gl_ 89 Try.func75 #[.pointer (some ⟨g606, 0, none⟩), .int .i64 3] ?_; (with_reducible refine (spec_l1Once.calls g606 t603 t660 t661 3 true t677 t678 w _ ?side1 ?side2 A119.out).mono ?_); (case side1 => exact in4x_ HI606 NB606_601 NB606_602 NB606_633 NB606_648); (case side2 => repeat (first | (with_reducible first | exact HB.out | apply below_alloc | apply pw_below_drewN | apply below_drew1 | refine below_set ?_ (IsS111.ge HI606.out) | refine below_set ?_ GE601.out | refine below_set ?_ GE602.out | refine below_set ?_ GE633.out | refine below_set ?_ GE648.out) | exact HB.out)); rintro e w157 ⟨rfl, hi, hb, hk⟩; refine ⟨_, rfl, ?_⟩; replace BK601 := Aside0.mk (KeepBut.blk hk (g' := gb601) (o := .cells #[.slice none 0 0, .int .i64 0, .string (⟨#[]⟩ : ByteArray)] 31 (0, 0)) (kb_ BK601.out) NB601_606.out (by simp)); replace BK602 := Aside0.mk (KeepBut.blk hk (g' := gb602) (o := .cells #[.int .i64 0, .string (⟨#[]⟩ : ByteArray)] 28 (0, 0)) (kb_ BK602.out) NB602_606.out (by simp)); replace HO614 := Aside0.mk (Kd.R_mono (Kd.R_keep (IsS111.apart (show IsS111 w _ g606 t603 t660 t661 from in4x_ HI606 NB606_601 NB606_602 NB606_633 NB606_648) (kr_ HO614.out) (by decide)) hk (fun _ h => h.2)) (fun _ h => h.1)); replace HO630 := Aside0.mk (Kd.R_mono (Kd.R_keep (IsS111.apart (show IsS111 w _ g606 t603 t660 t661 from in4x_ HI606 NB606_601 NB606_602 NB606_633 NB606_648) (kr_ HO630.out) (by decide)) hk (fun _ h => h.2)) (fun _ h => h.1)); replace BK633 := Aside0.mk (KeepBut.blk hk (g' := gb633) (o := .cells #[.slice Ao39 t628.length co39, .int .i64 t631, .string t632] 31 (0, 0)) (kb_ BK633.out) NB633_606.out (by simp)); replace HO636 := Aside0.mk (Kd.R_mono (Kd.R_keep (IsS111.apart (show IsS111 w _ g606 t603 t660 t661 from in4x_ HI606 NB606_601 NB606_602 NB606_633 NB606_648) (kr_ HO636.out) (by decide)) hk (fun _ h => h.2)) (fun _ h => h.1)); replace BK648 := Aside0.mk (KeepBut.blk hk (g' := gb648) (o := .cells #[.int .i64 t646, .string t647] 28 (0, 0)) (kb_ BK648.out) NB648_606.out (by simp)); replace HO658 := Aside0.mk (Kd.R_mono (Kd.R_keep (IsS111.apart (show IsS111 w _ g606 t603 t660 t661 from in4x_ HI606 NB606_601 NB606_602 NB606_633 NB606_648) (kr_ HO658.out) (by decide)) hk (fun _ h => h.2)) (fun _ h => h.1)); replace HB := Aside0.mk hb; replace HI606 := Aside0.mk hi; clear hb hk hi))
    replace HO614 := Aside0.mk (Kd.R_drew HO614.out)
    replace HO630 := Aside0.mk (Kd.R_drew HO630.out)
    replace HO636 := Aside0.mk (Kd.R_drew HO636.out)
    replace HO658 := Aside0.mk (Kd.R_drew HO658.out)
    replace BK601 := Aside0.mk (blk_drew BK601.out)
    replace BK602 := Aside0.mk (blk_drew BK602.out)
    replace BK633 := Aside0.mk (blk_drew BK633.out)
    replace BK648 := Aside0.mk (blk_drew BK648.out)
    replace HI606 := Aside0.mk (IsS111.drew HI606.out)
    replace HB := Aside0.mk (below_drew1 HB.out)
    refine start_ (n := 8) (S := fun w' => w'.cell? ⟨gb633, 0, none⟩ = some (.slice Ao39 t628.length co39) ∧ w'.cell? ⟨gb633, 1, none⟩ = some (.int .i64 t631) ∧ w'.cell? ⟨gb633, 2, none⟩ = some (.string t632) ∧ w'.cell? ⟨gb648, 0, none⟩ = some (.int .i64 t646) ∧ w'.cell? ⟨gb648, 1, none⟩ = some (.string t647)) (ds := []) (lz_ 8 0) (by kernel_rfl) rfl rfl ⟨bc0_ BK633.out, bc1_ BK633.out, bc2_ BK633.out, bc0_ BK648.out, bc1_ BK648.out⟩ (fun hHeld => ?_); refine with_tabW spec_DrawExtend.tab26 spec_DrawExtend.bits26 (fun HT_ HW_ => ?_)
    generalize w157.drew = w158 at HO614 HO630 HO636 HO658 BK601 BK602 BK633 BK648 HI606 HB hHeld ⊢
    refine pt_ 1 96 2 ?_
    refine pt_ 3 98 10 ?_
    refine tt_ 0 95 11 ?_
    refine tt_ 2 97 15 ?_
    refine one_ (i := 4) (N := none) (lz_ 8 31) rfl rfl (one_of HT_.out (by kernel_rfl)) (by decide) (fun K hK => ?_)
    have hs159 := bc0_ BK601.out
    have hfs159 := blk_frozen BK601.out 0
    have hns159_1 := NB602_601.out
    have hns159_2 := NB633_601.out
    have hns159_3 := NB648_601.out
    have hms159_1 := NB601_602.out
    have hms159_2 := NB601_633.out
    have hms159_3 := NB601_648.out
    have hs160 := bc1_ BK601.out
    have hfs160 := blk_frozen BK601.out 1
    have hns160_1 := NB602_601.out
    have hns160_2 := NB633_601.out
    have hns160_3 := NB648_601.out
    have hms160_1 := NB601_602.out
    have hms160_2 := NB601_633.out
    have hms160_3 := NB601_648.out
    have hs161 := bc2_ BK601.out
    have hfs161 := blk_frozen BK601.out 2
    have hns161_1 := NB602_601.out
    have hns161_2 := NB633_601.out
    have hns161_3 := NB648_601.out
    have hms161_1 := NB601_602.out
    have hms161_2 := NB601_633.out
    have hms161_3 := NB601_648.out
    refine skip_ (w1 := ?_) (by rfl) rfl ?_ ?_
    rotate_left
    ·go_simp
     rfl
    refine hK.out _ _ ⟨((cell_far (p := ⟨gb601, _, none⟩) NB633_601.out _).trans (((cell_far (p := ⟨gb601, _, none⟩) NB633_601.out _).trans (((cell_far (p := ⟨gb601, _, none⟩) NB633_601.out _).trans (hHeld.1)))))), ((cell_far (p := ⟨gb601, _, none⟩) NB633_601.out _).trans (((cell_far (p := ⟨gb601, _, none⟩) NB633_601.out _).trans (((cell_far (p := ⟨gb601, _, none⟩) NB633_601.out _).trans (hHeld.2.1)))))), ((cell_far (p := ⟨gb601, _, none⟩) NB633_601.out _).trans (((cell_far (p := ⟨gb601, _, none⟩) NB633_601.out _).trans (((cell_far (p := ⟨gb601, _, none⟩) NB633_601.out _).trans (hHeld.2.2.1)))))), ((cell_far (p := ⟨gb601, _, none⟩) NB648_601.out _).trans (((cell_far (p := ⟨gb601, _, none⟩) NB648_601.out _).trans (((cell_far (p := ⟨gb601, _, none⟩) NB648_601.out _).trans (hHeld.2.2.2.1)))))), ((cell_far (p := ⟨gb601, _, none⟩) NB648_601.out _).trans (((cell_far (p := ⟨gb601, _, none⟩) NB648_601.out _).trans (((cell_far (p := ⟨gb601, _, none⟩) NB648_601.out _).trans (hHeld.2.2.2.2))))))⟩ (fun hHeld => ?_)
    clear hK K
    refine pt_ 5 3 63 ?_
    refine one_ (i := 6) (N := none) (lz_ 8 127) rfl rfl (one_of HT_.out (by kernel_rfl)) (by decide) (fun K hK => ?_)
    have hs162 := bc0_ BK602.out
    have hfs162 := blk_frozen BK602.out 0
    have hns162_0 := NB601_602.out
    have hns162_2 := NB633_602.out
    have hns162_3 := NB648_602.out
    have hms162_0 := NB602_601.out
    have hms162_2 := NB602_633.out
    have hms162_3 := NB602_648.out
    have hs163 := bc1_ BK602.out
    have hfs163 := blk_frozen BK602.out 1
    have hns163_0 := NB601_602.out
    have hns163_2 := NB633_602.out
    have hns163_3 := NB648_602.out
    have hms163_0 := NB602_601.out
    have hms163_2 := NB602_633.out
    have hms163_3 := NB602_648.out
    refine skip_ (w1 := ?_) (by rfl) rfl ?_ ?_
    rotate_left
    ·go_simp
     rfl
    refine hK.out _ _ ⟨((cell_far (p := ⟨gb602, _, none⟩) NB633_602.out _).trans (((cell_far (p := ⟨gb602, _, none⟩) NB633_602.out _).trans (hHeld.1)))), ((cell_far (p := ⟨gb602, _, none⟩) NB633_602.out _).trans (((cell_far (p := ⟨gb602, _, none⟩) NB633_602.out _).trans (hHeld.2.1)))), ((cell_far (p := ⟨gb602, _, none⟩) NB633_602.out _).trans (((cell_far (p := ⟨gb602, _, none⟩) NB633_602.out _).trans (hHeld.2.2.1)))), ((cell_far (p := ⟨gb602, _, none⟩) NB648_602.out _).trans (((cell_far (p := ⟨gb602, _, none⟩) NB648_602.out _).trans (hHeld.2.2.2.1)))), ((cell_far (p := ⟨gb602, _, none⟩) NB648_602.out _).trans (((cell_far (p := ⟨gb602, _, none⟩) NB648_602.out _).trans (hHeld.2.2.2.2))))⟩ (fun hHeld => ?_)
    clear hK K
    refine pt_ 7 5 255 ?_
    refine done_ (done_of HT_.out (by kernel_rfl)) ?_
    try go_wp2
    refine bodyPost_ret (results_list (rs := [.cell 2 31, .tmp 3, .cell 4 28, .tmp 5]) rfl (by simp) (.cell gb601 31 #[.slice Ao39 t628.length co39, .int .i64 t631, .string t632] (0, 0) _ rfl (by exact kq_ BK601) Try.underlying31 rfl (by kernel_rfl) (.tmp (.cell gb602 28 #[.int .i64 t646, .string t647] (0, 0) _ rfl (by exact kq_ BK602) Try.underlying28 rfl (by kernel_rfl) (.tmp .nil))))) rfl ?_
    exact ⟨_, _, _, by first | rfl | (simp [errW_none, errW_some] <;> rfl) | (simp only [← hji12]; first | rfl | (simp [errW_none, errW_some] <;> rfl)) | (simp [*, errW_none, errW_some] <;> rfl), by (with_reducible repeat (first | apply Kd.R_alloc | apply Kd.R_drewN | apply Kd.R_drew)); exact Kd.R_mono (Kd.R_far (p := ⟨gb602, 1, none⟩) (Kd.R_far (p := ⟨gb602, 0, none⟩) (Kd.R_far (p := ⟨gb601, 2, none⟩) (Kd.R_far (p := ⟨gb601, 1, none⟩) (Kd.R_far (p := ⟨gb601, 0, none⟩) (Kd.R_types (Kd.R_types HO630.out BK601.out (by decide)) BK602.out (by decide)) (fun _ hk => hk.1.2) (.slice Ao39 t628.length co39)) (fun _ hk => hk.1.2) (.int .i64 t631)) (fun _ hk => hk.1.2) (.string t632)) (fun _ hk => hk.2) (.int .i64 t646)) (fun _ hk => hk.2) (.string t647)) (fun _ hk => hk.1.1.2), by (with_reducible repeat (first | apply Kd.R_alloc | apply Kd.R_drewN | apply Kd.R_drew)); exact Kd.R_mono (Kd.R_far (p := ⟨gb602, 1, none⟩) (Kd.R_far (p := ⟨gb602, 0, none⟩) (Kd.R_far (p := ⟨gb601, 2, none⟩) (Kd.R_far (p := ⟨gb601, 1, none⟩) (Kd.R_far (p := ⟨gb601, 0, none⟩) (Kd.R_mono (Kd.R_types HO636.out BK601.out (by decide)) (fun k_ hk => (⟨hk, hk.1.1.2⟩ : _ ∧ k_ ≠ gb602))) (fun _ hk => hk.1.2) (.slice Ao39 t628.length co39)) (fun _ hk => hk.1.2) (.int .i64 t631)) (fun _ hk => hk.1.2) (.string t632)) (fun _ hk => hk.2) (.int .i64 t646)) (fun _ hk => hk.2) (.string t647)) (fun _ hk => trivial), by (with_reducible repeat (first | apply Kd.R_alloc | apply Kd.R_drewN | apply Kd.R_drew)); exact Kd.R_mono (Kd.R_far (p := ⟨gb602, 1, none⟩) (Kd.R_far (p := ⟨gb602, 0, none⟩) (Kd.R_far (p := ⟨gb601, 2, none⟩) (Kd.R_far (p := ⟨gb601, 1, none⟩) (Kd.R_far (p := ⟨gb601, 0, none⟩) (Kd.R_types (Kd.R_types HO658.out BK601.out (by decide)) BK602.out (by decide)) (fun _ hk => hk.1.2) (.slice Ao39 t628.length co39)) (fun _ hk => hk.1.2) (.int .i64 t631)) (fun _ hk => hk.1.2) (.string t632)) (fun _ hk => hk.2) (.int .i64 t646)) (fun _ hk => hk.2) (.string t647)) (fun _ hk => hk.1.1.2), by repeat (first | (with_reducible first | exact HB.out | apply below_alloc | apply pw_below_drewN | apply below_drew1 | refine below_set ?_ (IsS111.ge HI606.out) | refine below_set ?_ GE601.out | refine below_set ?_ GE602.out | refine below_set ?_ GE633.out | refine below_set ?_ GE648.out) | exact HB.out)⟩
   ·replace H := ip_ H; obtain ⟨c164, H⟩ := H
    have LMc164 := Aside0.mk c164
    clear c164
    obtain ⟨y679, hy679⟩ : ∃ y_ : List (S28), y_ = (t634 ++ [(⟨t646, t647⟩ : S28)]) := ⟨_, rfl⟩
    replace H : (some (t628, t631, t632, y679, t646, t647, y675)) = some (r1, r2, r3, r4, r5, r6, r7) := yh_ hy679 H
    have Ny679 := Aside0.mk hy679
    clear hy679
    replace H := so7_ H; obtain ⟨rfl, rfl, rfl, rfl, rfl, rfl, rfl⟩ := H
    have p118 : 0 ≤ (0 : Int) := (by omega); have q118 : (0 : Int) < ((y656.length : Int) : Int) := of_decide_eq_true as_; have qi118 : (0 < y656.length) = True := eq_true (by omega); obtain ⟨go118, co118, eo118, gb118, gl118, cl118, HG118⟩ := Kd.R_form HO658.out (by omega); (first | cases eo118 | (injection eo118 with ea_ en_ ec_; (first | subst ea_ | (injection ea_ with ea_; subst ea_)); subst ec_; clear en_)); have GB118 := Aside0.mk gb118; have GG118 := Aside0.mk HG118; clear gb118 gl118 HG118; obtain ⟨hx118_0, hf118_0⟩ := Kd.R_celln (⟨#[]⟩ : ByteArray) HO658.out (0 : Int) p118 q118; (try rw [show ((0 : Int)).toNat = 0 from rfl] at hx118_0); (try simp only [Nat.reduceMul, Nat.zero_mul, Nat.zero_add, Nat.reduceAdd] at hx118_0); (try rw [show ((0 : Int)).toNat = 0 from rfl] at hf118_0); (try simp only [Nat.reduceMul, Nat.zero_mul, Nat.zero_add, Nat.reduceAdd] at hf118_0); replace p118 := eq_true p118; replace q118 := eq_true q118; obtain ⟨hy199_, hz199_⟩ := Kd.R_celln (⟨#[]⟩ : ByteArray) HO658.out (0 : Int) (by omega) (of_decide_eq_true as_); (try simp only [Int.reduceToNat, Int.toNat_zero, Int.toNat_ofNat, Nat.reduceMul, Nat.zero_mul, Nat.zero_add] at hy199_ hz199_); (try rw [show ((0 : Int)).toNat = 0 from rfl] at hy199_); (try rw [show ((0 : Int)).toNat = 0 from rfl] at hz199_); have HP199 := Kd.R_putg HO658.out (0 : Int) (⟨#[98, 101, 110, 116]⟩ : ByteArray)
    try go_wp2_with (first | ((with_reducible refine gate_store (t := 9) (p := 61) rfl ?_); refine store_event (t := 9) (p := 61) (v := ?vo_w200) (w1 := (w58.setCell ⟨go118, (0 : Int).toNat, none⟩ (.string (⟨#[98, 101, 110, 116]⟩ : ByteArray)))) ?hg ?ho ?hn ?hr ?_; (case ho => rfl); (case hg => rfl); (case hn => rfl); (case hr => first | (go_simp; done) | (go_simp; rfl)); intro w200 hw; have hg : w58.grownBy w200 (some go118) := (by rw [hw]; exact HP199.2); have hp_ : Kd.R Kd.string 9 w200 w.heap.size (fun k_ => some k_ ≠ (.slice Ao30 y612.length co30 : Value).ownBlock ∧ some k_ ≠ (.slice Ao39 t628.length co39 : Value).ownBlock) (.slice (some ⟨go118, 0, none⟩) y656.length co118) y675 := (by rw [hw, Ny675.out]; exact HP199.1); clear HP199; replace BK601 := kg_ BK601 HO658 hg; replace BK602 := kg_ BK602 HO658 hg; replace HI606 := Aside0.mk (IsS111.grown (in4x_ HI606 NB606_601 NB606_602 NB606_633 NB606_648) hg (IsS111.own_ne HI606.out HO658.out (by decide))); replace HO614 := Aside0.mk (Kd.R_after (v := (.slice (some ⟨go118, 0, none⟩) y656.length co118)) (v1 := (.slice (some ⟨go118, 0, none⟩) y656.length co118)) (ok := (fun k_ => some k_ ≠ (.slice Ao39 t628.length co39 : Value).ownBlock)) (kr_ HO614.out) hg (.inl rfl)); replace HO630 := Aside0.mk (Kd.R_after (v := (.slice (some ⟨go118, 0, none⟩) y656.length co118)) (v1 := (.slice (some ⟨go118, 0, none⟩) y656.length co118)) (ok := (fun k_ => some k_ ≠ (.slice Ao30 y612.length co30 : Value).ownBlock)) (kr_ HO630.out) hg (.inl rfl)); replace BK633 := kg_ BK633 HO658 hg; replace HO636 := Aside0.mk (Kd.R_over' (v := (.slice (some ⟨go118, 0, none⟩) y656.length co118)) (kr_ HO636.out) (Kd.R_typed HO658.out) (by decide) hg); replace BK648 := kg_ BK648 HO658 hg; replace HO658 := Aside0.mk hp_; replace HB := Aside0.mk ((by rw [hw]; exact below_set (HB.out) GB118.out : Below w.heap.size w w200)); clear hg hw hp_) | ((with_reducible refine gk_ 75 ?_); refine gl_ 89 Try.func75 #[.pointer (some ⟨g606, 0, none⟩), .int .i64 3] ?_; (with_reducible refine (spec_l1Once.calls g606 t603 t660 t661 3 false t677 t678 w _ ?side1 ?side2 A119.out).mono ?_); (case side1 => exact in4x_ HI606 NB606_601 NB606_602 NB606_633 NB606_648); (case side2 => repeat (first | (with_reducible first | exact HB.out | apply below_alloc | apply pw_below_drewN | apply below_drew1 | refine below_set ?_ (IsS111.ge HI606.out) | refine below_set ?_ GE601.out | refine below_set ?_ GE602.out | refine below_set ?_ GE633.out | refine below_set ?_ GE648.out) | exact HB.out)); rintro e w201 ⟨rfl, hi, hb, hk⟩; refine ⟨_, rfl, ?_⟩; replace BK601 := Aside0.mk (KeepBut.blk hk (g' := gb601) (o := .cells #[.slice none 0 0, .int .i64 0, .string (⟨#[]⟩ : ByteArray)] 31 (0, 0)) (kb_ BK601.out) NB601_606.out (by simp)); replace BK602 := Aside0.mk (KeepBut.blk hk (g' := gb602) (o := .cells #[.int .i64 0, .string (⟨#[]⟩ : ByteArray)] 28 (0, 0)) (kb_ BK602.out) NB602_606.out (by simp)); replace HO614 := Aside0.mk (Kd.R_mono (Kd.R_keep (IsS111.apart (show IsS111 w _ g606 t603 t660 t661 from in4x_ HI606 NB606_601 NB606_602 NB606_633 NB606_648) (kr_ HO614.out) (by decide)) hk (fun _ h => h.2)) (fun _ h => h.1)); replace HO630 := Aside0.mk (Kd.R_mono (Kd.R_keep (IsS111.apart (show IsS111 w _ g606 t603 t660 t661 from in4x_ HI606 NB606_601 NB606_602 NB606_633 NB606_648) (kr_ HO630.out) (by decide)) hk (fun _ h => h.2)) (fun _ h => h.1)); replace BK633 := Aside0.mk (KeepBut.blk hk (g' := gb633) (o := .cells #[.slice Ao39 t628.length co39, .int .i64 t631, .string t632] 31 (0, 0)) (kb_ BK633.out) NB633_606.out (by simp)); replace HO636 := Aside0.mk (Kd.R_mono (Kd.R_keep (IsS111.apart (show IsS111 w _ g606 t603 t660 t661 from in4x_ HI606 NB606_601 NB606_602 NB606_633 NB606_648) (kr_ HO636.out) (by decide)) hk (fun _ h => h.2)) (fun _ h => h.1)); replace BK648 := Aside0.mk (KeepBut.blk hk (g' := gb648) (o := .cells #[.int .i64 t646, .string t647] 28 (0, 0)) (kb_ BK648.out) NB648_606.out (by simp)); replace HO658 := Aside0.mk (Kd.R_mono (Kd.R_keep (IsS111.apart (show IsS111 w _ g606 t603 t660 t661 from in4x_ HI606 NB606_601 NB606_602 NB606_633 NB606_648) (kr_ HO658.out) (by decide)) hk (fun _ h => h.2)) (fun _ h => h.1)); replace HB := Aside0.mk hb; replace HI606 := Aside0.mk hi; clear hb hk hi; have hz202 := cz2_ BK648) | ((with_reducible refine gate_builtin (b := .append) (xs := #[.tmp 91, .tmp 93]) rfl ?_); at_builtin; refine Kd.R_append k28 (w0 := w) w.heap.size rfl (.tmp 91) (.tmp 93) 35 28 (.agg #[(.int .i64 0), (.string ⟨#[]⟩)]) 24 rfl Try.underlying35 info28 rfl (by decide) (by omega) v635 t634 (⟨t646, t647⟩ : S28) [.int .i64 t646, .string t647] (fun k_ => k_ ≠ gb602 ∧ k_ ≠ gb648) (fun _ => False) rfl rfl ?aP (fun _ hk => hk.elim) ?aF ?aO ?aB ?aS ?aL ?_; (case aP => exact k28_mkM _ _ _ (⟨t646, t647⟩ : S28)); (case aB => exact (bs5_ HB (IsS111.ge HI606.out) GE601.out GE602.out GE633.out GE648.out)); (case aF => exact (fun k_ hk => ⟨Kd.freshB (kb_ BK602.out) k_ hk, Kd.freshB (kb_ BK648.out) k_ hk⟩)); (case aO => exact (kr_ (Kd.R_mono HO636.out (fun _ hk => ⟨hk.1.2, hk.2⟩)))); (case aS => exact (below_size (bs5_ HB (IsS111.ge HI606.out) GE601.out GE602.out GE633.out GE648.out))); (case aL => have := LMc164.out; omega); intro v680 w203 ho hb hg hat; rw [← Ny679.out] at ho; replace BK601 := kg_ BK601 HO636 hg; replace BK602 := Aside0.mk (blk_grown (kb_ BK602.out) hg (Kd.R_away HO636.out (fun _ hk => hk.1.2))); replace HI606 := Aside0.mk (IsS111.grown (in4x_ HI606 NB606_601 NB606_602 NB606_633 NB606_648) hg (IsS111.own_ne HI606.out HO636.out (by decide))); replace HO614 := Aside0.mk (Kd.R_over' (kr_ HO614.out) (Kd.R_typed (kr_ HO636.out)) (by decide) hg); replace HO630 := Aside0.mk (Kd.R_over' (kr_ HO630.out) (Kd.R_typed (kr_ HO636.out)) (by decide) hg); replace BK633 := kg_ BK633 HO636 hg; replace BK648 := Aside0.mk (blk_grown (kb_ BK648.out) hg (Kd.R_away HO636.out (fun _ hk => hk.2))); replace HO658 := Aside0.mk (Kd.R_over' (kr_ HO658.out) (Kd.R_typed (kr_ HO636.out)) (by decide) hg); replace HB := Aside0.mk hb; have HO681 := Aside0.mk ho; clear HO636; clear ho hb hg hat))
    replace HO614 := Aside0.mk (Kd.R_drew HO614.out)
    replace HO630 := Aside0.mk (Kd.R_drew HO630.out)
    replace HO658 := Aside0.mk (Kd.R_drew HO658.out)
    replace HO681 := Aside0.mk (Kd.R_drew HO681.out)
    replace BK601 := Aside0.mk (blk_drew BK601.out)
    replace BK602 := Aside0.mk (blk_drew BK602.out)
    replace BK633 := Aside0.mk (blk_drew BK633.out)
    replace BK648 := Aside0.mk (blk_drew BK648.out)
    replace HI606 := Aside0.mk (IsS111.drew HI606.out)
    replace HB := Aside0.mk (below_drew1 HB.out)
    refine start_ (n := 8) (S := fun w' => w'.cell? ⟨gb633, 0, none⟩ = some (.slice Ao39 t628.length co39) ∧ w'.cell? ⟨gb633, 1, none⟩ = some (.int .i64 t631) ∧ w'.cell? ⟨gb633, 2, none⟩ = some (.string t632) ∧ w'.cell? ⟨gb648, 0, none⟩ = some (.int .i64 t646) ∧ w'.cell? ⟨gb648, 1, none⟩ = some (.string t647)) (ds := []) (lz_ 8 0) (by kernel_rfl) rfl rfl ⟨bc0_ BK633.out, bc1_ BK633.out, bc2_ BK633.out, bc0_ BK648.out, bc1_ BK648.out⟩ (fun hHeld => ?_); refine with_tabW spec_DrawExtend.tab26 spec_DrawExtend.bits26 (fun HT_ HW_ => ?_)
    generalize w203.drew = w204 at HO614 HO630 HO658 HO681 BK601 BK602 BK633 BK648 HI606 HB hHeld ⊢
    refine pt_ 1 96 2 ?_
    refine pt_ 3 98 10 ?_
    refine tt_ 0 95 11 ?_
    refine tt_ 2 97 15 ?_
    refine one_ (i := 4) (N := none) (lz_ 8 31) rfl rfl (one_of HT_.out (by kernel_rfl)) (by decide) (fun K hK => ?_)
    have hs205 := bc0_ BK601.out
    have hfs205 := blk_frozen BK601.out 0
    have hns205_1 := NB602_601.out
    have hns205_2 := NB633_601.out
    have hns205_3 := NB648_601.out
    have hms205_1 := NB601_602.out
    have hms205_2 := NB601_633.out
    have hms205_3 := NB601_648.out
    have hs206 := bc1_ BK601.out
    have hfs206 := blk_frozen BK601.out 1
    have hns206_1 := NB602_601.out
    have hns206_2 := NB633_601.out
    have hns206_3 := NB648_601.out
    have hms206_1 := NB601_602.out
    have hms206_2 := NB601_633.out
    have hms206_3 := NB601_648.out
    have hs207 := bc2_ BK601.out
    have hfs207 := blk_frozen BK601.out 2
    have hns207_1 := NB602_601.out
    have hns207_2 := NB633_601.out
    have hns207_3 := NB648_601.out
    have hms207_1 := NB601_602.out
    have hms207_2 := NB601_633.out
    have hms207_3 := NB601_648.out
    refine skip_ (w1 := ?_) (by rfl) rfl ?_ ?_
    rotate_left
    ·go_simp
     rfl
    refine hK.out _ _ ⟨((cell_far (p := ⟨gb601, _, none⟩) NB633_601.out _).trans (((cell_far (p := ⟨gb601, _, none⟩) NB633_601.out _).trans (((cell_far (p := ⟨gb601, _, none⟩) NB633_601.out _).trans (hHeld.1)))))), ((cell_far (p := ⟨gb601, _, none⟩) NB633_601.out _).trans (((cell_far (p := ⟨gb601, _, none⟩) NB633_601.out _).trans (((cell_far (p := ⟨gb601, _, none⟩) NB633_601.out _).trans (hHeld.2.1)))))), ((cell_far (p := ⟨gb601, _, none⟩) NB633_601.out _).trans (((cell_far (p := ⟨gb601, _, none⟩) NB633_601.out _).trans (((cell_far (p := ⟨gb601, _, none⟩) NB633_601.out _).trans (hHeld.2.2.1)))))), ((cell_far (p := ⟨gb601, _, none⟩) NB648_601.out _).trans (((cell_far (p := ⟨gb601, _, none⟩) NB648_601.out _).trans (((cell_far (p := ⟨gb601, _, none⟩) NB648_601.out _).trans (hHeld.2.2.2.1)))))), ((cell_far (p := ⟨gb601, _, none⟩) NB648_601.out _).trans (((cell_far (p := ⟨gb601, _, none⟩) NB648_601.out _).trans (((cell_far (p := ⟨gb601, _, none⟩) NB648_601.out _).trans (hHeld.2.2.2.2))))))⟩ (fun hHeld => ?_)
    clear hK K
    refine pt_ 5 3 63 ?_
    refine one_ (i := 6) (N := none) (lz_ 8 127) rfl rfl (one_of HT_.out (by kernel_rfl)) (by decide) (fun K hK => ?_)
    have hs208 := bc0_ BK602.out
    have hfs208 := blk_frozen BK602.out 0
    have hns208_0 := NB601_602.out
    have hns208_2 := NB633_602.out
    have hns208_3 := NB648_602.out
    have hms208_0 := NB602_601.out
    have hms208_2 := NB602_633.out
    have hms208_3 := NB602_648.out
    have hs209 := bc1_ BK602.out
    have hfs209 := blk_frozen BK602.out 1
    have hns209_0 := NB601_602.out
    have hns209_2 := NB633_602.out
    have hns209_3 := NB648_602.out
    have hms209_0 := NB602_601.out
    have hms209_2 := NB602_633.out
    have hms209_3 := NB602_648.out
    refine skip_ (w1 := ?_) (by rfl) rfl ?_ ?_
    rotate_left
    ·go_simp
     rfl
    refine hK.out _ _ ⟨((cell_far (p := ⟨gb602, _, none⟩) NB633_602.out _).trans (((cell_far (p := ⟨gb602, _, none⟩) NB633_602.out _).trans (hHeld.1)))), ((cell_far (p := ⟨gb602, _, none⟩) NB633_602.out _).trans (((cell_far (p := ⟨gb602, _, none⟩) NB633_602.out _).trans (hHeld.2.1)))), ((cell_far (p := ⟨gb602, _, none⟩) NB633_602.out _).trans (((cell_far (p := ⟨gb602, _, none⟩) NB633_602.out _).trans (hHeld.2.2.1)))), ((cell_far (p := ⟨gb602, _, none⟩) NB648_602.out _).trans (((cell_far (p := ⟨gb602, _, none⟩) NB648_602.out _).trans (hHeld.2.2.2.1)))), ((cell_far (p := ⟨gb602, _, none⟩) NB648_602.out _).trans (((cell_far (p := ⟨gb602, _, none⟩) NB648_602.out _).trans (hHeld.2.2.2.2))))⟩ (fun hHeld => ?_)
    clear hK K
    refine pt_ 7 5 255 ?_
    refine done_ (done_of HT_.out (by kernel_rfl)) ?_
    try go_wp2
    refine bodyPost_ret (results_list (rs := [.cell 2 31, .tmp 3, .cell 4 28, .tmp 5]) rfl (by simp) (.cell gb601 31 #[.slice Ao39 t628.length co39, .int .i64 t631, .string t632] (0, 0) _ rfl (by exact kq_ BK601) Try.underlying31 rfl (by kernel_rfl) (.tmp (.cell gb602 28 #[.int .i64 t646, .string t647] (0, 0) _ rfl (by exact kq_ BK602) Try.underlying28 rfl (by kernel_rfl) (.tmp .nil))))) rfl ?_
    exact ⟨_, _, _, by first | rfl | (simp [errW_none, errW_some] <;> rfl) | (simp only [← hji12]; first | rfl | (simp [errW_none, errW_some] <;> rfl)) | (simp [*, errW_none, errW_some] <;> rfl), by (with_reducible repeat (first | apply Kd.R_alloc | apply Kd.R_drewN | apply Kd.R_drew)); exact Kd.R_mono (Kd.R_far (p := ⟨gb602, 1, none⟩) (Kd.R_far (p := ⟨gb602, 0, none⟩) (Kd.R_far (p := ⟨gb601, 2, none⟩) (Kd.R_far (p := ⟨gb601, 1, none⟩) (Kd.R_far (p := ⟨gb601, 0, none⟩) (Kd.R_types (Kd.R_types HO630.out BK601.out (by decide)) BK602.out (by decide)) (fun _ hk => hk.1.2) (.slice Ao39 t628.length co39)) (fun _ hk => hk.1.2) (.int .i64 t631)) (fun _ hk => hk.1.2) (.string t632)) (fun _ hk => hk.2) (.int .i64 t646)) (fun _ hk => hk.2) (.string t647)) (fun _ hk => hk.1.1.2), by (with_reducible repeat (first | apply Kd.R_alloc | apply Kd.R_drewN | apply Kd.R_drew)); exact Kd.R_mono (Kd.R_far (p := ⟨gb602, 1, none⟩) (Kd.R_far (p := ⟨gb602, 0, none⟩) (Kd.R_far (p := ⟨gb601, 2, none⟩) (Kd.R_far (p := ⟨gb601, 1, none⟩) (Kd.R_far (p := ⟨gb601, 0, none⟩) (Kd.R_mono (Kd.R_types HO681.out BK601.out (by decide)) (fun k_ hk => (⟨hk, hk.1.1⟩ : _ ∧ k_ ≠ gb602))) (fun _ hk => hk.1.2) (.slice Ao39 t628.length co39)) (fun _ hk => hk.1.2) (.int .i64 t631)) (fun _ hk => hk.1.2) (.string t632)) (fun _ hk => hk.2) (.int .i64 t646)) (fun _ hk => hk.2) (.string t647)) (fun _ hk => trivial), by (with_reducible repeat (first | apply Kd.R_alloc | apply Kd.R_drewN | apply Kd.R_drew)); exact Kd.R_mono (Kd.R_far (p := ⟨gb602, 1, none⟩) (Kd.R_far (p := ⟨gb602, 0, none⟩) (Kd.R_far (p := ⟨gb601, 2, none⟩) (Kd.R_far (p := ⟨gb601, 1, none⟩) (Kd.R_far (p := ⟨gb601, 0, none⟩) (Kd.R_types (Kd.R_types HO658.out BK601.out (by decide)) BK602.out (by decide)) (fun _ hk => hk.1.2) (.slice Ao39 t628.length co39)) (fun _ hk => hk.1.2) (.int .i64 t631)) (fun _ hk => hk.1.2) (.string t632)) (fun _ hk => hk.2) (.int .i64 t646)) (fun _ hk => hk.2) (.string t647)) (fun _ hk => hk.1.1.2), by repeat (first | (with_reducible first | exact HB.out | apply below_alloc | apply pw_below_drewN | apply below_drew1 | refine below_set ?_ (IsS111.ge HI606.out) | refine below_set ?_ GE601.out | refine below_set ?_ GE602.out | refine below_set ?_ GE633.out | refine below_set ?_ GE648.out) | exact HB.out)⟩
  ·have c116b0 : (t659 == 1) = false := beq_eq_false_iff_ne.mpr c116
   have c116b1 : (t659 != 1) = true := bne_iff_ne.mpr c116
   replace H := it_ H; obtain ⟨c210, H⟩ | ⟨c210, H⟩ := H
   ·have c210b0 : (t659 == 2) = true := beq_iff_eq.mpr c210
    have c210b1 : (t659 != 2) = false := bne_eq_false_iff_eq.mpr c210
    clear c210
    replace H := bi_ H; obtain ⟨⟨t682, t685, t686⟩, A211, H⟩ := H
    dsimp only at H
    replace H := ip_ H; obtain ⟨c212, H⟩ := H
    have c212b0 := decide_eq_true c212
    have c212b1 : decide (0 < t682.length) = true := decide_eq_true (by omega)
    clear c212
    replace H := bi_ H; obtain ⟨⟨t688, t689, t690⟩, A213, H⟩ := H
    dsimp only at H
    replace H := itb_ H; obtain ⟨rfl, H⟩ | ⟨rfl, H⟩ := H
    ·replace H := so7_ H; obtain ⟨rfl, rfl, rfl, rfl, rfl, rfl, rfl⟩ := H
     try go_wp2_with (first | ((with_reducible refine gk_ 74 ?_); refine gl_ 65 Try.func74 #[.pointer (some ⟨g606, 0, none⟩)] ?_; (with_reducible refine (spec_l10Any.calls k g606 t603 t660 t661 t682 t685 t686 w _ ?side1 ?side2 A211.out).mono ?_); (case side1 => exact in4x_ HI606 NB606_601 NB606_602 NB606_633 NB606_648); (case side2 => repeat (first | (with_reducible first | exact HB.out | apply below_alloc | apply pw_below_drewN | apply below_drew1 | refine below_set ?_ (IsS111.ge HI606.out) | refine below_set ?_ GE601.out | refine below_set ?_ GE602.out | refine below_set ?_ GE633.out | refine below_set ?_ GE648.out) | exact HB.out)); rintro e w249 ⟨v683, rfl, ho0, hi, hb, hk⟩; refine ⟨_, rfl, ?_⟩; replace BK601 := Aside0.mk (KeepBut.blk hk (g' := gb601) (o := .cells #[.slice none 0 0, .int .i64 0, .string (⟨#[]⟩ : ByteArray)] 31 (0, 0)) (kb_ BK601.out) NB601_606.out (by simp)); replace HO614 := Aside0.mk (Kd.R_mono (Kd.R_keep (IsS111.apart (show IsS111 w _ g606 t603 t660 t661 from in4x_ HI606 NB606_601 NB606_602 NB606_633 NB606_648) (kr_ HO614.out) (by decide)) hk (fun _ h => h.2)) (fun _ h => h.1)); replace HO630 := Aside0.mk (Kd.R_mono (Kd.R_keep (IsS111.apart (show IsS111 w _ g606 t603 t660 t661 from in4x_ HI606 NB606_601 NB606_602 NB606_633 NB606_648) (kr_ HO630.out) (by decide)) hk (fun _ h => h.2)) (fun _ h => h.1)); replace BK633 := Aside0.mk (KeepBut.blk hk (g' := gb633) (o := .cells #[.slice Ao39 t628.length co39, .int .i64 t631, .string t632] 31 (0, 0)) (kb_ BK633.out) NB633_606.out (by simp)); replace HO658 := Aside0.mk (Kd.R_mono (Kd.R_keep (IsS111.apart (show IsS111 w _ g606 t603 t660 t661 from in4x_ HI606 NB606_601 NB606_602 NB606_633 NB606_648) (kr_ HO658.out) (by decide)) hk (fun _ h => h.2)) (fun _ h => h.1)); have HO684 := Aside0.mk (Kd.R_lower (Kd.R_newB (Kd.R_newB (Kd.R_new' ho0 (lt_ HO636)) (kb_ BK602.out)) (kb_ BK648.out)) (below_size (bs5_ HB (IsS111.ge HI606.out) GE601.out GE602.out GE633.out GE648.out))); replace BK602 := Aside0.mk (KeepBut.blk hk (g' := gb602) (o := .cells #[.int .i64 0, .string (⟨#[]⟩ : ByteArray)] 28 (0, 0)) (kb_ BK602.out) NB602_606.out (by simp)); replace HO636 := Aside0.mk (Kd.R_mono (Kd.R_told (Kd.R_oldK (IsS111.apart (show IsS111 w _ g606 t603 t660 t661 from in4x_ HI606 NB606_601 NB606_602 NB606_633 NB606_648) (kr_ HO636.out) (by decide)) hk) (Kd.R_base ho0)) (fun _ h_ => h_.1)); replace BK648 := Aside0.mk (KeepBut.blk hk (g' := gb648) (o := .cells #[.int .i64 t646, .string t647] 28 (0, 0)) (kb_ BK648.out) NB648_606.out (by simp)); replace HB := Aside0.mk hb; replace HI606 := Aside0.mk hi; clear hb hk hi ho0; obtain ⟨Ao250, co250, eo250⟩ := Kd.R_slice HO684.out; subst eo250; have p687 : 0 ≤ (0 : Int) := (by omega); have q687 : 0 < (t682.length : Int) := of_decide_eq_true as_; obtain ⟨ad687, e687, hx687_0, hx687_1⟩ := at_T28 (Kd.R_reads' HO684.out).2.2 0 p687 q687; cases e687; have qi687 : (0 < t682.length) = True := eq_true (by omega); (try rw [show ((0 : Int)).toNat = 0 from rfl] at hx687_0); (try rw [show 0 * 2 = 0 from rfl] at hx687_0); (try rw [Addr.add_zero'] at hx687_0); (try rw [show ((0 : Int)).toNat = 0 from rfl] at hx687_1); (try rw [show 0 * 2 = 0 from rfl] at hx687_1); (try rw [Addr.add_zero'] at hx687_1); replace p687 := eq_true p687; replace q687 := eq_true q687; have hz251 := cz2_ BK648) | ((with_reducible refine gk_ 75 ?_); refine gl_ 89 Try.func75 #[.pointer (some ⟨g606, 0, none⟩), .int .i64 3] ?_; (with_reducible refine (spec_l1Once.calls g606 t603 t685 t686 3 true t689 t690 w _ ?side1 ?side2 A213.out).mono ?_); (case side1 => exact in4x_ HI606 NB606_601 NB606_602 NB606_633 NB606_648); (case side2 => repeat (first | (with_reducible first | exact HB.out | apply below_alloc | apply pw_below_drewN | apply below_drew1 | refine below_set ?_ (IsS111.ge HI606.out) | refine below_set ?_ GE601.out | refine below_set ?_ GE602.out | refine below_set ?_ GE633.out | refine below_set ?_ GE648.out) | exact HB.out)); rintro e w252 ⟨rfl, hi, hb, hk⟩; refine ⟨_, rfl, ?_⟩; replace BK601 := Aside0.mk (KeepBut.blk hk (g' := gb601) (o := .cells #[.slice none 0 0, .int .i64 0, .string (⟨#[]⟩ : ByteArray)] 31 (0, 0)) (kq_ BK601) NB601_606.out (by simp)); replace BK602 := Aside0.mk (KeepBut.blk hk (g' := gb602) (o := .cells #[.int .i64 0, .string (⟨#[]⟩ : ByteArray)] 28 (0, 0)) (kq_ BK602) NB602_606.out (by simp)); replace HO614 := Aside0.mk (Kd.R_mono (Kd.R_keep (IsS111.apart (show IsS111 w _ g606 t603 t685 t686 from in4x_ HI606 NB606_601 NB606_602 NB606_633 NB606_648) (kf_ HO614 BK648) (by decide)) hk (fun _ h => h.2)) (fun _ h => h.1)); replace HO630 := Aside0.mk (Kd.R_mono (Kd.R_keep (IsS111.apart (show IsS111 w _ g606 t603 t685 t686 from in4x_ HI606 NB606_601 NB606_602 NB606_633 NB606_648) (kf_ HO630 BK648) (by decide)) hk (fun _ h => h.2)) (fun _ h => h.1)); replace BK633 := Aside0.mk (KeepBut.blk hk (g' := gb633) (o := .cells #[.slice Ao39 t628.length co39, .int .i64 t631, .string t632] 31 (0, 0)) (kq_ BK633) NB633_606.out (by simp)); replace HO636 := Aside0.mk (Kd.R_mono (Kd.R_keep (IsS111.apart (show IsS111 w _ g606 t603 t685 t686 from in4x_ HI606 NB606_601 NB606_602 NB606_633 NB606_648) (kr_ ((Kd.R_mono (Kd.R_far (p := ⟨gb648, 1, none⟩) (Kd.R_far (p := ⟨gb648, 0, none⟩) (Kd.R_mono HO636.out (fun k_ hk => (⟨hk, hk.1.2⟩ : _ ∧ k_ ≠ gb648))) (fun _ hk => hk.2) (.int .i64 ((rd_T28 t682 0).f0))) (fun _ hk => hk.2) (.string ((rd_T28 t682 0).f1))) (fun _ h_ => h_.1)))) (by decide)) hk (fun _ h => h.2)) (fun _ h => h.1)); replace HO658 := Aside0.mk (Kd.R_mono (Kd.R_keep (IsS111.apart (show IsS111 w _ g606 t603 t685 t686 from in4x_ HI606 NB606_601 NB606_602 NB606_633 NB606_648) (kf_ HO658 BK648) (by decide)) hk (fun _ h => h.2)) (fun _ h => h.1)); replace BK648 := Aside0.mk (KeepBut.blk hk (g' := gb648) (o := .cells #[.int .i64 ((rd_T28 t682 0).f0), .string ((rd_T28 t682 0).f1)] 28 (0, 0)) (kq_ BK648) NB648_606.out (by simp)); replace HO684 := Aside0.mk (Kd.R_mono (Kd.R_keep (IsS111.apart (show IsS111 w _ g606 t603 t685 t686 from in4x_ HI606 NB606_601 NB606_602 NB606_633 NB606_648) (kr_ ((Kd.R_mono (Kd.R_far (p := ⟨gb648, 1, none⟩) (Kd.R_far (p := ⟨gb648, 0, none⟩) (Kd.R_mono HO684.out (fun k_ hk => (⟨hk, hk.2⟩ : _ ∧ k_ ≠ gb648))) (fun _ hk => hk.2) (.int .i64 ((rd_T28 t682 0).f0))) (fun _ hk => hk.2) (.string ((rd_T28 t682 0).f1))) (fun _ h_ => h_.1)))) (by decide)) hk (fun _ h => h.2)) (fun _ h => h.1)); replace HB := Aside0.mk hb; replace HI606 := Aside0.mk hi; clear hb hk hi))
     replace HO614 := Aside0.mk (Kd.R_drew HO614.out)
     replace HO630 := Aside0.mk (Kd.R_drew HO630.out)
     replace HO636 := Aside0.mk (Kd.R_drew HO636.out)
     replace HO658 := Aside0.mk (Kd.R_drew HO658.out)
     replace HO684 := Aside0.mk (Kd.R_drew HO684.out)
     replace BK601 := Aside0.mk (blk_drew BK601.out)
     replace BK602 := Aside0.mk (blk_drew BK602.out)
     replace BK633 := Aside0.mk (blk_drew BK633.out)
     replace BK648 := Aside0.mk (blk_drew BK648.out)
     replace HI606 := Aside0.mk (IsS111.drew HI606.out)
     replace HB := Aside0.mk (below_drew1 HB.out)
     refine start_ (n := 8) (S := fun w' => w'.cell? ⟨gb633, 0, none⟩ = some (.slice Ao39 t628.length co39) ∧ w'.cell? ⟨gb633, 1, none⟩ = some (.int .i64 t631) ∧ w'.cell? ⟨gb633, 2, none⟩ = some (.string t632) ∧ w'.cell? ⟨gb648, 0, none⟩ = some (.int .i64 ((rd_T28 t682 0).f0)) ∧ w'.cell? ⟨gb648, 1, none⟩ = some (.string ((rd_T28 t682 0).f1))) (ds := []) (lz_ 8 0) (by kernel_rfl) rfl rfl ⟨bc0_ BK633.out, bc1_ BK633.out, bc2_ BK633.out, bc0_ BK648.out, bc1_ BK648.out⟩ (fun hHeld => ?_); refine with_tabW spec_DrawExtend.tab26 spec_DrawExtend.bits26 (fun HT_ HW_ => ?_)
     generalize w252.drew = w253 at HO614 HO630 HO636 HO658 HO684 BK601 BK602 BK633 BK648 HI606 HB hHeld ⊢
     refine pt_ 1 96 2 ?_
     refine pt_ 3 98 10 ?_
     refine tt_ 0 95 11 ?_
     refine tt_ 2 97 15 ?_
     refine one_ (i := 4) (N := none) (lz_ 8 31) rfl rfl (one_of HT_.out (by kernel_rfl)) (by decide) (fun K hK => ?_)
     have hs254 := bc0_ BK601.out
     have hfs254 := blk_frozen BK601.out 0
     have hns254_1 := NB602_601.out
     have hns254_2 := NB633_601.out
     have hns254_3 := NB648_601.out
     have hms254_1 := NB601_602.out
     have hms254_2 := NB601_633.out
     have hms254_3 := NB601_648.out
     have hs255 := bc1_ BK601.out
     have hfs255 := blk_frozen BK601.out 1
     have hns255_1 := NB602_601.out
     have hns255_2 := NB633_601.out
     have hns255_3 := NB648_601.out
     have hms255_1 := NB601_602.out
     have hms255_2 := NB601_633.out
     have hms255_3 := NB601_648.out
     have hs256 := bc2_ BK601.out
     have hfs256 := blk_frozen BK601.out 2
     have hns256_1 := NB602_601.out
     have hns256_2 := NB633_601.out
     have hns256_3 := NB648_601.out
     have hms256_1 := NB601_602.out
     have hms256_2 := NB601_633.out
     have hms256_3 := NB601_648.out
     refine skip_ (w1 := ?_) (by rfl) rfl ?_ ?_
     rotate_left
     ·go_simp
      rfl
     refine hK.out _ _ ⟨((cell_far (p := ⟨gb601, _, none⟩) NB633_601.out _).trans (((cell_far (p := ⟨gb601, _, none⟩) NB633_601.out _).trans (((cell_far (p := ⟨gb601, _, none⟩) NB633_601.out _).trans (hHeld.1)))))), ((cell_far (p := ⟨gb601, _, none⟩) NB633_601.out _).trans (((cell_far (p := ⟨gb601, _, none⟩) NB633_601.out _).trans (((cell_far (p := ⟨gb601, _, none⟩) NB633_601.out _).trans (hHeld.2.1)))))), ((cell_far (p := ⟨gb601, _, none⟩) NB633_601.out _).trans (((cell_far (p := ⟨gb601, _, none⟩) NB633_601.out _).trans (((cell_far (p := ⟨gb601, _, none⟩) NB633_601.out _).trans (hHeld.2.2.1)))))), ((cell_far (p := ⟨gb601, _, none⟩) NB648_601.out _).trans (((cell_far (p := ⟨gb601, _, none⟩) NB648_601.out _).trans (((cell_far (p := ⟨gb601, _, none⟩) NB648_601.out _).trans (hHeld.2.2.2.1)))))), ((cell_far (p := ⟨gb601, _, none⟩) NB648_601.out _).trans (((cell_far (p := ⟨gb601, _, none⟩) NB648_601.out _).trans (((cell_far (p := ⟨gb601, _, none⟩) NB648_601.out _).trans (hHeld.2.2.2.2))))))⟩ (fun hHeld => ?_)
     clear hK K
     refine pt_ 5 3 63 ?_
     refine one_ (i := 6) (N := none) (lz_ 8 127) rfl rfl (one_of HT_.out (by kernel_rfl)) (by decide) (fun K hK => ?_)
     have hs257 := bc0_ BK602.out
     have hfs257 := blk_frozen BK602.out 0
     have hns257_0 := NB601_602.out
     have hns257_2 := NB633_602.out
     have hns257_3 := NB648_602.out
     have hms257_0 := NB602_601.out
     have hms257_2 := NB602_633.out
     have hms257_3 := NB602_648.out
     have hs258 := bc1_ BK602.out
     have hfs258 := blk_frozen BK602.out 1
     have hns258_0 := NB601_602.out
     have hns258_2 := NB633_602.out
     have hns258_3 := NB648_602.out
     have hms258_0 := NB602_601.out
     have hms258_2 := NB602_633.out
     have hms258_3 := NB602_648.out
     refine skip_ (w1 := ?_) (by rfl) rfl ?_ ?_
     rotate_left
     ·go_simp
      rfl
     refine hK.out _ _ ⟨((cell_far (p := ⟨gb602, _, none⟩) NB633_602.out _).trans (((cell_far (p := ⟨gb602, _, none⟩) NB633_602.out _).trans (hHeld.1)))), ((cell_far (p := ⟨gb602, _, none⟩) NB633_602.out _).trans (((cell_far (p := ⟨gb602, _, none⟩) NB633_602.out _).trans (hHeld.2.1)))), ((cell_far (p := ⟨gb602, _, none⟩) NB633_602.out _).trans (((cell_far (p := ⟨gb602, _, none⟩) NB633_602.out _).trans (hHeld.2.2.1)))), ((cell_far (p := ⟨gb602, _, none⟩) NB648_602.out _).trans (((cell_far (p := ⟨gb602, _, none⟩) NB648_602.out _).trans (hHeld.2.2.2.1)))), ((cell_far (p := ⟨gb602, _, none⟩) NB648_602.out _).trans (((cell_far (p := ⟨gb602, _, none⟩) NB648_602.out _).trans (hHeld.2.2.2.2))))⟩ (fun hHeld => ?_)
     clear hK K
     refine pt_ 7 5 255 ?_
     refine done_ (done_of HT_.out (by kernel_rfl)) ?_
     try go_wp2
     refine bodyPost_ret (results_list (rs := [.cell 2 31, .tmp 3, .cell 4 28, .tmp 5]) rfl (by simp) (.cell gb601 31 #[.slice Ao39 t628.length co39, .int .i64 t631, .string t632] (0, 0) _ rfl (by exact kq_ BK601) Try.underlying31 rfl (by kernel_rfl) (.tmp (.cell gb602 28 #[.int .i64 ((rd_T28 t682 0).f0), .string ((rd_T28 t682 0).f1)] (0, 0) _ rfl (by exact kq_ BK602) Try.underlying28 rfl (by kernel_rfl) (.tmp .nil))))) rfl ?_
     exact ⟨_, _, _, by first | rfl | (simp [errW_none, errW_some] <;> rfl) | (simp only [← hji12]; first | rfl | (simp [errW_none, errW_some] <;> rfl)) | (simp [*, errW_none, errW_some] <;> rfl), by (with_reducible repeat (first | apply Kd.R_alloc | apply Kd.R_drewN | apply Kd.R_drew)); exact Kd.R_mono (Kd.R_far (p := ⟨gb602, 1, none⟩) (Kd.R_far (p := ⟨gb602, 0, none⟩) (Kd.R_far (p := ⟨gb601, 2, none⟩) (Kd.R_far (p := ⟨gb601, 1, none⟩) (Kd.R_far (p := ⟨gb601, 0, none⟩) (Kd.R_types (Kd.R_types HO630.out BK601.out (by decide)) BK602.out (by decide)) (fun _ hk => hk.1.2) (.slice Ao39 t628.length co39)) (fun _ hk => hk.1.2) (.int .i64 t631)) (fun _ hk => hk.1.2) (.string t632)) (fun _ hk => hk.2) (.int .i64 ((rd_T28 t682 0).f0))) (fun _ hk => hk.2) (.string ((rd_T28 t682 0).f1))) (fun _ hk => hk.1.1.2), by (with_reducible repeat (first | apply Kd.R_alloc | apply Kd.R_drewN | apply Kd.R_drew)); exact Kd.R_mono (Kd.R_far (p := ⟨gb602, 1, none⟩) (Kd.R_far (p := ⟨gb602, 0, none⟩) (Kd.R_far (p := ⟨gb601, 2, none⟩) (Kd.R_far (p := ⟨gb601, 1, none⟩) (Kd.R_far (p := ⟨gb601, 0, none⟩) (Kd.R_mono (Kd.R_types HO636.out BK601.out (by decide)) (fun k_ hk => (⟨hk, hk.1.1.1.2⟩ : _ ∧ k_ ≠ gb602))) (fun _ hk => hk.1.2) (.slice Ao39 t628.length co39)) (fun _ hk => hk.1.2) (.int .i64 t631)) (fun _ hk => hk.1.2) (.string t632)) (fun _ hk => hk.2) (.int .i64 ((rd_T28 t682 0).f0))) (fun _ hk => hk.2) (.string ((rd_T28 t682 0).f1))) (fun _ hk => trivial), by (with_reducible repeat (first | apply Kd.R_alloc | apply Kd.R_drewN | apply Kd.R_drew)); exact Kd.R_mono (Kd.R_far (p := ⟨gb602, 1, none⟩) (Kd.R_far (p := ⟨gb602, 0, none⟩) (Kd.R_far (p := ⟨gb601, 2, none⟩) (Kd.R_far (p := ⟨gb601, 1, none⟩) (Kd.R_far (p := ⟨gb601, 0, none⟩) (Kd.R_types (Kd.R_types HO658.out BK601.out (by decide)) BK602.out (by decide)) (fun _ hk => hk.1.2) (.slice Ao39 t628.length co39)) (fun _ hk => hk.1.2) (.int .i64 t631)) (fun _ hk => hk.1.2) (.string t632)) (fun _ hk => hk.2) (.int .i64 ((rd_T28 t682 0).f0))) (fun _ hk => hk.2) (.string ((rd_T28 t682 0).f1))) (fun _ hk => hk.1.1.2), by repeat (first | (with_reducible first | exact HB.out | apply below_alloc | apply pw_below_drewN | apply below_drew1 | refine below_set ?_ (IsS111.ge HI606.out) | refine below_set ?_ GE601.out | refine below_set ?_ GE602.out | refine below_set ?_ GE633.out | refine below_set ?_ GE648.out) | exact HB.out)⟩
    ·replace H := ip_ H; obtain ⟨c259, H⟩ := H
     have LMc259 := Aside0.mk c259
     clear c259
     obtain ⟨y691, hy691⟩ : ∃ y_ : List (S28), y_ = (t634 ++ [(⟨(rd_T28 t682 0).f0, (rd_T28 t682 0).f1⟩ : S28)]) := ⟨_, rfl⟩
     replace H : (some (t628, t631, t632, y691, (rd_T28 t682 0).f0, (rd_T28 t682 0).f1, y656)) = some (r1, r2, r3, r4, r5, r6, r7) := yh_ hy691 H
     have Ny691 := Aside0.mk hy691
     clear hy691
     replace H := so7_ H; obtain ⟨rfl, rfl, rfl, rfl, rfl, rfl, rfl⟩ := H
     try go_wp2_with (first | ((with_reducible refine gk_ 74 ?_); refine gl_ 65 Try.func74 #[.pointer (some ⟨g606, 0, none⟩)] ?_; (with_reducible refine (spec_l10Any.calls k g606 t603 t660 t661 t682 t685 t686 w _ ?side1 ?side2 A211.out).mono ?_); (case side1 => exact in4x_ HI606 NB606_601 NB606_602 NB606_633 NB606_648); (case side2 => repeat (first | (with_reducible first | exact HB.out | apply below_alloc | apply pw_below_drewN | apply below_drew1 | refine below_set ?_ (IsS111.ge HI606.out) | refine below_set ?_ GE601.out | refine below_set ?_ GE602.out | refine below_set ?_ GE633.out | refine below_set ?_ GE648.out) | exact HB.out)); rintro e w294 ⟨v683, rfl, ho0, hi, hb, hk⟩; refine ⟨_, rfl, ?_⟩; replace BK601 := Aside0.mk (KeepBut.blk hk (g' := gb601) (o := .cells #[.slice none 0 0, .int .i64 0, .string (⟨#[]⟩ : ByteArray)] 31 (0, 0)) (kb_ BK601.out) NB601_606.out (by simp)); replace HO614 := Aside0.mk (Kd.R_mono (Kd.R_keep (IsS111.apart (show IsS111 w _ g606 t603 t660 t661 from in4x_ HI606 NB606_601 NB606_602 NB606_633 NB606_648) (kr_ HO614.out) (by decide)) hk (fun _ h => h.2)) (fun _ h => h.1)); replace HO630 := Aside0.mk (Kd.R_mono (Kd.R_keep (IsS111.apart (show IsS111 w _ g606 t603 t660 t661 from in4x_ HI606 NB606_601 NB606_602 NB606_633 NB606_648) (kr_ HO630.out) (by decide)) hk (fun _ h => h.2)) (fun _ h => h.1)); replace BK633 := Aside0.mk (KeepBut.blk hk (g' := gb633) (o := .cells #[.slice Ao39 t628.length co39, .int .i64 t631, .string t632] 31 (0, 0)) (kb_ BK633.out) NB633_606.out (by simp)); replace HO658 := Aside0.mk (Kd.R_mono (Kd.R_keep (IsS111.apart (show IsS111 w _ g606 t603 t660 t661 from in4x_ HI606 NB606_601 NB606_602 NB606_633 NB606_648) (kr_ HO658.out) (by decide)) hk (fun _ h => h.2)) (fun _ h => h.1)); have HO684 := Aside0.mk (Kd.R_lower (Kd.R_newB (Kd.R_newB (Kd.R_new' ho0 (lt_ HO636)) (kb_ BK602.out)) (kb_ BK648.out)) (below_size (bs5_ HB (IsS111.ge HI606.out) GE601.out GE602.out GE633.out GE648.out))); replace BK602 := Aside0.mk (KeepBut.blk hk (g' := gb602) (o := .cells #[.int .i64 0, .string (⟨#[]⟩ : ByteArray)] 28 (0, 0)) (kb_ BK602.out) NB602_606.out (by simp)); replace HO636 := Aside0.mk (Kd.R_mono (Kd.R_told (Kd.R_oldK (IsS111.apart (show IsS111 w _ g606 t603 t660 t661 from in4x_ HI606 NB606_601 NB606_602 NB606_633 NB606_648) (kr_ HO636.out) (by decide)) hk) (Kd.R_base ho0)) (fun _ h_ => h_.1)); replace BK648 := Aside0.mk (KeepBut.blk hk (g' := gb648) (o := .cells #[.int .i64 t646, .string t647] 28 (0, 0)) (kb_ BK648.out) NB648_606.out (by simp)); replace HB := Aside0.mk hb; replace HI606 := Aside0.mk hi; clear hb hk hi ho0; obtain ⟨Ao295, co295, eo295⟩ := Kd.R_slice HO684.out; subst eo295; have p687 : 0 ≤ (0 : Int) := (by omega); have q687 : 0 < (t682.length : Int) := of_decide_eq_true as_; obtain ⟨ad687, e687, hx687_0, hx687_1⟩ := at_T28 (Kd.R_reads' HO684.out).2.2 0 p687 q687; cases e687; have qi687 : (0 < t682.length) = True := eq_true (by omega); (try rw [show ((0 : Int)).toNat = 0 from rfl] at hx687_0); (try rw [show 0 * 2 = 0 from rfl] at hx687_0); (try rw [Addr.add_zero'] at hx687_0); (try rw [show ((0 : Int)).toNat = 0 from rfl] at hx687_1); (try rw [show 0 * 2 = 0 from rfl] at hx687_1); (try rw [Addr.add_zero'] at hx687_1); replace p687 := eq_true p687; replace q687 := eq_true q687; have hz296 := cz2_ BK648) | ((with_reducible refine gk_ 75 ?_); refine gl_ 89 Try.func75 #[.pointer (some ⟨g606, 0, none⟩), .int .i64 3] ?_; (with_reducible refine (spec_l1Once.calls g606 t603 t685 t686 3 false t689 t690 w _ ?side1 ?side2 A213.out).mono ?_); (case side1 => exact in4x_ HI606 NB606_601 NB606_602 NB606_633 NB606_648); (case side2 => repeat (first | (with_reducible first | exact HB.out | apply below_alloc | apply pw_below_drewN | apply below_drew1 | refine below_set ?_ (IsS111.ge HI606.out) | refine below_set ?_ GE601.out | refine below_set ?_ GE602.out | refine below_set ?_ GE633.out | refine below_set ?_ GE648.out) | exact HB.out)); rintro e w297 ⟨rfl, hi, hb, hk⟩; refine ⟨_, rfl, ?_⟩; replace BK601 := Aside0.mk (KeepBut.blk hk (g' := gb601) (o := .cells #[.slice none 0 0, .int .i64 0, .string (⟨#[]⟩ : ByteArray)] 31 (0, 0)) (kq_ BK601) NB601_606.out (by simp)); replace BK602 := Aside0.mk (KeepBut.blk hk (g' := gb602) (o := .cells #[.int .i64 0, .string (⟨#[]⟩ : ByteArray)] 28 (0, 0)) (kq_ BK602) NB602_606.out (by simp)); replace HO614 := Aside0.mk (Kd.R_mono (Kd.R_keep (IsS111.apart (show IsS111 w _ g606 t603 t685 t686 from in4x_ HI606 NB606_601 NB606_602 NB606_633 NB606_648) (kf_ HO614 BK648) (by decide)) hk (fun _ h => h.2)) (fun _ h => h.1)); replace HO630 := Aside0.mk (Kd.R_mono (Kd.R_keep (IsS111.apart (show IsS111 w _ g606 t603 t685 t686 from in4x_ HI606 NB606_601 NB606_602 NB606_633 NB606_648) (kf_ HO630 BK648) (by decide)) hk (fun _ h => h.2)) (fun _ h => h.1)); replace BK633 := Aside0.mk (KeepBut.blk hk (g' := gb633) (o := .cells #[.slice Ao39 t628.length co39, .int .i64 t631, .string t632] 31 (0, 0)) (kq_ BK633) NB633_606.out (by simp)); replace HO636 := Aside0.mk (Kd.R_mono (Kd.R_keep (IsS111.apart (show IsS111 w _ g606 t603 t685 t686 from in4x_ HI606 NB606_601 NB606_602 NB606_633 NB606_648) (kr_ ((Kd.R_mono (Kd.R_far (p := ⟨gb648, 1, none⟩) (Kd.R_far (p := ⟨gb648, 0, none⟩) (Kd.R_mono HO636.out (fun k_ hk => (⟨hk, hk.1.2⟩ : _ ∧ k_ ≠ gb648))) (fun _ hk => hk.2) (.int .i64 ((rd_T28 t682 0).f0))) (fun _ hk => hk.2) (.string ((rd_T28 t682 0).f1))) (fun _ h_ => h_.1)))) (by decide)) hk (fun _ h => h.2)) (fun _ h => h.1)); replace HO658 := Aside0.mk (Kd.R_mono (Kd.R_keep (IsS111.apart (show IsS111 w _ g606 t603 t685 t686 from in4x_ HI606 NB606_601 NB606_602 NB606_633 NB606_648) (kf_ HO658 BK648) (by decide)) hk (fun _ h => h.2)) (fun _ h => h.1)); replace BK648 := Aside0.mk (KeepBut.blk hk (g' := gb648) (o := .cells #[.int .i64 ((rd_T28 t682 0).f0), .string ((rd_T28 t682 0).f1)] 28 (0, 0)) (kq_ BK648) NB648_606.out (by simp)); replace HO684 := Aside0.mk (Kd.R_mono (Kd.R_keep (IsS111.apart (show IsS111 w _ g606 t603 t685 t686 from in4x_ HI606 NB606_601 NB606_602 NB606_633 NB606_648) (kr_ ((Kd.R_mono (Kd.R_far (p := ⟨gb648, 1, none⟩) (Kd.R_far (p := ⟨gb648, 0, none⟩) (Kd.R_mono HO684.out (fun k_ hk => (⟨hk, hk.2⟩ : _ ∧ k_ ≠ gb648))) (fun _ hk => hk.2) (.int .i64 ((rd_T28 t682 0).f0))) (fun _ hk => hk.2) (.string ((rd_T28 t682 0).f1))) (fun _ h_ => h_.1)))) (by decide)) hk (fun _ h => h.2)) (fun _ h => h.1)); replace HB := Aside0.mk hb; replace HI606 := Aside0.mk hi; clear hb hk hi; have hz298 := cz2_ BK648) | ((with_reducible refine gate_builtin (b := .append) (xs := #[.tmp 91, .tmp 93]) rfl ?_); at_builtin; refine Kd.R_append k28 (w0 := w) w.heap.size rfl (.tmp 91) (.tmp 93) 35 28 (.agg #[(.int .i64 0), (.string ⟨#[]⟩)]) 24 rfl Try.underlying35 info28 rfl (by decide) (by omega) v635 t634 (⟨(rd_T28 t682 0).f0, (rd_T28 t682 0).f1⟩ : S28) [.int .i64 ((rd_T28 t682 0).f0), .string ((rd_T28 t682 0).f1)] (fun k_ => some k_ ≠ (.slice (some ad687) t682.length co295 : Value).ownBlock ∧ k_ ≠ gb602 ∧ k_ ≠ gb648) (fun _ => False) rfl rfl ?aP (fun _ hk => hk.elim) ?aF ?aO ?aB ?aS ?aL ?_; (case aP => exact k28_mkM _ _ _ (⟨(rd_T28 t682 0).f0, (rd_T28 t682 0).f1⟩ : S28)); (case aB => exact (bs5_ HB (IsS111.ge HI606.out) GE601.out GE602.out GE633.out GE648.out)); (case aF => exact (fun k_ hk => ⟨Kd.fresh' (lt_ HO684) k_ hk, Kd.freshB (kb_ BK602.out) k_ hk, Kd.freshB (kb_ BK648.out) k_ hk⟩)); (case aO => exact (kr_ (Kd.R_mono HO636.out (fun _ hk => ⟨hk.2, ⟨hk.1.1.2, hk.1.2⟩⟩)))); (case aS => exact (below_size (bs5_ HB (IsS111.ge HI606.out) GE601.out GE602.out GE633.out GE648.out))); (case aL => have := LMc259.out; omega); intro v692 w299 ho hb hg hat; rw [← Ny691.out] at ho; replace BK601 := kg_ BK601 HO636 hg; replace BK602 := Aside0.mk (blk_grown (kb_ BK602.out) hg (Kd.R_away HO636.out (fun _ hk => hk.1.1.2))); replace HI606 := Aside0.mk (IsS111.grown (in4x_ HI606 NB606_601 NB606_602 NB606_633 NB606_648) hg (IsS111.own_ne HI606.out HO636.out (by decide))); replace HO614 := Aside0.mk (Kd.R_over' (kr_ HO614.out) (Kd.R_typed (kr_ HO636.out)) (by decide) hg); replace HO630 := Aside0.mk (Kd.R_over' (kr_ HO630.out) (Kd.R_typed (kr_ HO636.out)) (by decide) hg); replace BK633 := kg_ BK633 HO636 hg; replace BK648 := Aside0.mk (blk_grown (kb_ BK648.out) hg (Kd.R_away HO636.out (fun _ hk => hk.1.2))); replace HO658 := Aside0.mk (Kd.R_over' (kr_ HO658.out) (Kd.R_typed (kr_ HO636.out)) (by decide) hg); replace HO684 := Aside0.mk (Kd.R_after (ok := (fun k_ => k_ ≠ gb602 ∧ k_ ≠ gb648)) (kr_ (Kd.R_mono HO684.out (fun _ hk => ⟨⟨hk.1.2, hk.2⟩, hk.1.1.2⟩))) hg hat); replace HB := Aside0.mk hb; have HO693 := Aside0.mk ho; clear HO636; clear ho hb hg hat))
     replace HO614 := Aside0.mk (Kd.R_drew HO614.out)
     replace HO630 := Aside0.mk (Kd.R_drew HO630.out)
     replace HO658 := Aside0.mk (Kd.R_drew HO658.out)
     replace HO684 := Aside0.mk (Kd.R_drew HO684.out)
     replace HO693 := Aside0.mk (Kd.R_drew HO693.out)
     replace BK601 := Aside0.mk (blk_drew BK601.out)
     replace BK602 := Aside0.mk (blk_drew BK602.out)
     replace BK633 := Aside0.mk (blk_drew BK633.out)
     replace BK648 := Aside0.mk (blk_drew BK648.out)
     replace HI606 := Aside0.mk (IsS111.drew HI606.out)
     replace HB := Aside0.mk (below_drew1 HB.out)
     refine start_ (n := 8) (S := fun w' => w'.cell? ⟨gb633, 0, none⟩ = some (.slice Ao39 t628.length co39) ∧ w'.cell? ⟨gb633, 1, none⟩ = some (.int .i64 t631) ∧ w'.cell? ⟨gb633, 2, none⟩ = some (.string t632) ∧ w'.cell? ⟨gb648, 0, none⟩ = some (.int .i64 ((rd_T28 t682 0).f0)) ∧ w'.cell? ⟨gb648, 1, none⟩ = some (.string ((rd_T28 t682 0).f1))) (ds := []) (lz_ 8 0) (by kernel_rfl) rfl rfl ⟨bc0_ BK633.out, bc1_ BK633.out, bc2_ BK633.out, bc0_ BK648.out, bc1_ BK648.out⟩ (fun hHeld => ?_); refine with_tabW spec_DrawExtend.tab26 spec_DrawExtend.bits26 (fun HT_ HW_ => ?_)
     generalize w299.drew = w300 at HO614 HO630 HO658 HO684 HO693 BK601 BK602 BK633 BK648 HI606 HB hHeld ⊢
     refine pt_ 1 96 2 ?_
     refine pt_ 3 98 10 ?_
     refine tt_ 0 95 11 ?_
     refine tt_ 2 97 15 ?_
     refine one_ (i := 4) (N := none) (lz_ 8 31) rfl rfl (one_of HT_.out (by kernel_rfl)) (by decide) (fun K hK => ?_)
     have hs301 := bc0_ BK601.out
     have hfs301 := blk_frozen BK601.out 0
     have hns301_1 := NB602_601.out
     have hns301_2 := NB633_601.out
     have hns301_3 := NB648_601.out
     have hms301_1 := NB601_602.out
     have hms301_2 := NB601_633.out
     have hms301_3 := NB601_648.out
     have hs302 := bc1_ BK601.out
     have hfs302 := blk_frozen BK601.out 1
     have hns302_1 := NB602_601.out
     have hns302_2 := NB633_601.out
     have hns302_3 := NB648_601.out
     have hms302_1 := NB601_602.out
     have hms302_2 := NB601_633.out
     have hms302_3 := NB601_648.out
     have hs303 := bc2_ BK601.out
     have hfs303 := blk_frozen BK601.out 2
     have hns303_1 := NB602_601.out
     have hns303_2 := NB633_601.out
     have hns303_3 := NB648_601.out
     have hms303_1 := NB601_602.out
     have hms303_2 := NB601_633.out
     have hms303_3 := NB601_648.out
     refine skip_ (w1 := ?_) (by rfl) rfl ?_ ?_
     rotate_left
     ·go_simp
      rfl
     refine hK.out _ _ ⟨((cell_far (p := ⟨gb601, _, none⟩) NB633_601.out _).trans (((cell_far (p := ⟨gb601, _, none⟩) NB633_601.out _).trans (((cell_far (p := ⟨gb601, _, none⟩) NB633_601.out _).trans (hHeld.1)))))), ((cell_far (p := ⟨gb601, _, none⟩) NB633_601.out _).trans (((cell_far (p := ⟨gb601, _, none⟩) NB633_601.out _).trans (((cell_far (p := ⟨gb601, _, none⟩) NB633_601.out _).trans (hHeld.2.1)))))), ((cell_far (p := ⟨gb601, _, none⟩) NB633_601.out _).trans (((cell_far (p := ⟨gb601, _, none⟩) NB633_601.out _).trans (((cell_far (p := ⟨gb601, _, none⟩) NB633_601.out _).trans (hHeld.2.2.1)))))), ((cell_far (p := ⟨gb601, _, none⟩) NB648_601.out _).trans (((cell_far (p := ⟨gb601, _, none⟩) NB648_601.out _).trans (((cell_far (p := ⟨gb601, _, none⟩) NB648_601.out _).trans (hHeld.2.2.2.1)))))), ((cell_far (p := ⟨gb601, _, none⟩) NB648_601.out _).trans (((cell_far (p := ⟨gb601, _, none⟩) NB648_601.out _).trans (((cell_far (p := ⟨gb601, _, none⟩) NB648_601.out _).trans (hHeld.2.2.2.2))))))⟩ (fun hHeld => ?_)
     clear hK K
     refine pt_ 5 3 63 ?_
     refine one_ (i := 6) (N := none) (lz_ 8 127) rfl rfl (one_of HT_.out (by kernel_rfl)) (by decide) (fun K hK => ?_)
     have hs304 := bc0_ BK602.out
     have hfs304 := blk_frozen BK602.out 0
     have hns304_0 := NB601_602.out
     have hns304_2 := NB633_602.out
     have hns304_3 := NB648_602.out
     have hms304_0 := NB602_601.out
     have hms304_2 := NB602_633.out
     have hms304_3 := NB602_648.out
     have hs305 := bc1_ BK602.out
     have hfs305 := blk_frozen BK602.out 1
     have hns305_0 := NB601_602.out
     have hns305_2 := NB633_602.out
     have hns305_3 := NB648_602.out
     have hms305_0 := NB602_601.out
     have hms305_2 := NB602_633.out
     have hms305_3 := NB602_648.out
     refine skip_ (w1 := ?_) (by rfl) rfl ?_ ?_
     rotate_left
     ·go_simp
      rfl
     refine hK.out _ _ ⟨((cell_far (p := ⟨gb602, _, none⟩) NB633_602.out _).trans (((cell_far (p := ⟨gb602, _, none⟩) NB633_602.out _).trans (hHeld.1)))), ((cell_far (p := ⟨gb602, _, none⟩) NB633_602.out _).trans (((cell_far (p := ⟨gb602, _, none⟩) NB633_602.out _).trans (hHeld.2.1)))), ((cell_far (p := ⟨gb602, _, none⟩) NB633_602.out _).trans (((cell_far (p := ⟨gb602, _, none⟩) NB633_602.out _).trans (hHeld.2.2.1)))), ((cell_far (p := ⟨gb602, _, none⟩) NB648_602.out _).trans (((cell_far (p := ⟨gb602, _, none⟩) NB648_602.out _).trans (hHeld.2.2.2.1)))), ((cell_far (p := ⟨gb602, _, none⟩) NB648_602.out _).trans (((cell_far (p := ⟨gb602, _, none⟩) NB648_602.out _).trans (hHeld.2.2.2.2))))⟩ (fun hHeld => ?_)
     clear hK K
     refine pt_ 7 5 255 ?_
     refine done_ (done_of HT_.out (by kernel_rfl)) ?_
     try go_wp2
     refine bodyPost_ret (results_list (rs := [.cell 2 31, .tmp 3, .cell 4 28, .tmp 5]) rfl (by simp) (.cell gb601 31 #[.slice Ao39 t628.length co39, .int .i64 t631, .string t632] (0, 0) _ rfl (by exact kq_ BK601) Try.underlying31 rfl (by kernel_rfl) (.tmp (.cell gb602 28 #[.int .i64 ((rd_T28 t682 0).f0), .string ((rd_T28 t682 0).f1)] (0, 0) _ rfl (by exact kq_ BK602) Try.underlying28 rfl (by kernel_rfl) (.tmp .nil))))) rfl ?_
     exact ⟨_, _, _, by first | rfl | (simp [errW_none, errW_some] <;> rfl) | (simp only [← hji12]; first | rfl | (simp [errW_none, errW_some] <;> rfl)) | (simp [*, errW_none, errW_some] <;> rfl), by (with_reducible repeat (first | apply Kd.R_alloc | apply Kd.R_drewN | apply Kd.R_drew)); exact Kd.R_mono (Kd.R_far (p := ⟨gb602, 1, none⟩) (Kd.R_far (p := ⟨gb602, 0, none⟩) (Kd.R_far (p := ⟨gb601, 2, none⟩) (Kd.R_far (p := ⟨gb601, 1, none⟩) (Kd.R_far (p := ⟨gb601, 0, none⟩) (Kd.R_types (Kd.R_types HO630.out BK601.out (by decide)) BK602.out (by decide)) (fun _ hk => hk.1.2) (.slice Ao39 t628.length co39)) (fun _ hk => hk.1.2) (.int .i64 t631)) (fun _ hk => hk.1.2) (.string t632)) (fun _ hk => hk.2) (.int .i64 ((rd_T28 t682 0).f0))) (fun _ hk => hk.2) (.string ((rd_T28 t682 0).f1))) (fun _ hk => hk.1.1.2), by (with_reducible repeat (first | apply Kd.R_alloc | apply Kd.R_drewN | apply Kd.R_drew)); exact Kd.R_mono (Kd.R_far (p := ⟨gb602, 1, none⟩) (Kd.R_far (p := ⟨gb602, 0, none⟩) (Kd.R_far (p := ⟨gb601, 2, none⟩) (Kd.R_far (p := ⟨gb601, 1, none⟩) (Kd.R_far (p := ⟨gb601, 0, none⟩) (Kd.R_mono (Kd.R_types HO693.out BK601.out (by decide)) (fun k_ hk => (⟨hk, hk.1.2.1⟩ : _ ∧ k_ ≠ gb602))) (fun _ hk => hk.1.2) (.slice Ao39 t628.length co39)) (fun _ hk => hk.1.2) (.int .i64 t631)) (fun _ hk => hk.1.2) (.string t632)) (fun _ hk => hk.2) (.int .i64 ((rd_T28 t682 0).f0))) (fun _ hk => hk.2) (.string ((rd_T28 t682 0).f1))) (fun _ hk => trivial), by (with_reducible repeat (first | apply Kd.R_alloc | apply Kd.R_drewN | apply Kd.R_drew)); exact Kd.R_mono (Kd.R_far (p := ⟨gb602, 1, none⟩) (Kd.R_far (p := ⟨gb602, 0, none⟩) (Kd.R_far (p := ⟨gb601, 2, none⟩) (Kd.R_far (p := ⟨gb601, 1, none⟩) (Kd.R_far (p := ⟨gb601, 0, none⟩) (Kd.R_types (Kd.R_types HO658.out BK601.out (by decide)) BK602.out (by decide)) (fun _ hk => hk.1.2) (.slice Ao39 t628.length co39)) (fun _ hk => hk.1.2) (.int .i64 t631)) (fun _ hk => hk.1.2) (.string t632)) (fun _ hk => hk.2) (.int .i64 ((rd_T28 t682 0).f0))) (fun _ hk => hk.2) (.string ((rd_T28 t682 0).f1))) (fun _ hk => hk.1.1.2), by repeat (first | (with_reducible first | exact HB.out | apply below_alloc | apply pw_below_drewN | apply below_drew1 | refine below_set ?_ (IsS111.ge HI606.out) | refine below_set ?_ GE601.out | refine below_set ?_ GE602.out | refine below_set ?_ GE633.out | refine below_set ?_ GE648.out) | exact HB.out)⟩
   ·have c210b0 : (t659 == 2) = false := beq_eq_false_iff_ne.mpr c210
    have c210b1 : (t659 != 2) = true := bne_iff_ne.mpr c210
    replace H := it_ H; obtain ⟨c306, H⟩ | ⟨c306, H⟩ := H
    ·have c306b0 : (t659 == 3) = true := beq_iff_eq.mpr c306
     have c306b1 : (t659 != 3) = false := bne_eq_false_iff_eq.mpr c306
     clear c306
     obtain ⟨y694, Ny694, H⟩ := sb_ (([] : List ByteArray)) H
     replace H := bi_ H; obtain ⟨⟨t697, t698, t699⟩, A307, H⟩ := H
     dsimp only at H
     replace H := itb_ H; obtain ⟨rfl, H⟩ | ⟨rfl, H⟩ := H
     ·replace H := so7_ H; obtain ⟨rfl, rfl, rfl, rfl, rfl, rfl, rfl⟩ := H
      try go_wp2_with (first | ((with_reducible refine gd_ 70 ?_); refine rl_ Kd.string 9 70 ([] : List ByteArray) [] ?_; intro v695 w343 ho344 hb hg_ hnew_; clear hg_ hnew_; (first | rw [← Ny694.out] at ho344 | (simp only [Int.reduceToNat] at ho344; rw [← Ny694.out] at ho344)); replace HO636 := rb_ HO636 hb; have HO696 := Aside0.mk (Kd.R_lower (Kd.R_new' (Kd.R_new' (Kd.R_new' ho344 (lt_ HO614)) (lt_ HO630)) (lt_ HO658)) (below_size (bs5_ HB (IsS111.ge HI606.out) GE601.out GE602.out GE633.out GE648.out))); replace HO614 := re_ HO614 ho344 hb; replace HO630 := re_ HO630 ho344 hb; replace HO658 := re_ HO658 ho344 hb; replace BK601 := kl_ BK601 hb; replace BK602 := kl_ BK602 hb; replace BK633 := kl_ BK633 hb; replace BK648 := kl_ BK648 hb; replace HB := Aside0.mk (below_step (bs5_ HB (IsS111.ge HI606.out) GE601.out GE602.out GE633.out GE648.out) hb); replace HI606 := Aside0.mk (IsS111.below (in4x_ HI606 NB606_601 NB606_602 NB606_633 NB606_648) hb); clear hb ho344; have hz345 := cz3_ BK633; have hz346 := cz2_ BK648) | ((with_reducible refine gk_ 75 ?_); refine gl_ 89 Try.func75 #[.pointer (some ⟨g606, 0, none⟩), .int .i64 3] ?_; (with_reducible refine (spec_l1Once.calls g606 t603 t660 t661 3 true t698 t699 w _ ?side1 ?side2 A307.out).mono ?_); (case side1 => exact in4x_ HI606 NB606_601 NB606_602 NB606_633 NB606_648); (case side2 => repeat (first | (with_reducible first | exact HB.out | apply below_alloc | apply pw_below_drewN | apply below_drew1 | refine below_set ?_ (IsS111.ge HI606.out) | refine below_set ?_ GE601.out | refine below_set ?_ GE602.out | refine below_set ?_ GE633.out | refine below_set ?_ GE648.out) | exact HB.out)); rintro e w347 ⟨rfl, hi, hb, hk⟩; refine ⟨_, rfl, ?_⟩; replace BK601 := Aside0.mk (KeepBut.blk hk (g' := gb601) (o := .cells #[.slice none 0 0, .int .i64 0, .string (⟨#[]⟩ : ByteArray)] 31 (0, 0)) (kq_ BK601) NB601_606.out (by simp)); replace BK602 := Aside0.mk (KeepBut.blk hk (g' := gb602) (o := .cells #[.int .i64 0, .string (⟨#[]⟩ : ByteArray)] 28 (0, 0)) (kq_ BK602) NB602_606.out (by simp)); replace HO614 := Aside0.mk (Kd.R_mono (Kd.R_keep (IsS111.apart (show IsS111 w _ g606 t603 t660 t661 from in4x_ HI606 NB606_601 NB606_602 NB606_633 NB606_648) (kf_ HO614 BK648) (by decide)) hk (fun _ h => h.2)) (fun _ h => h.1)); replace HO630 := Aside0.mk (Kd.R_mono (Kd.R_keep (IsS111.apart (show IsS111 w _ g606 t603 t660 t661 from in4x_ HI606 NB606_601 NB606_602 NB606_633 NB606_648) (kf_ HO630 BK648) (by decide)) hk (fun _ h => h.2)) (fun _ h => h.1)); replace BK633 := Aside0.mk (KeepBut.blk hk (g' := gb633) (o := .cells #[.slice Ao39 t628.length co39, .int .i64 t631, .string t632] 31 (0, 0)) (kq_ BK633) NB633_606.out (by simp)); replace HO636 := Aside0.mk (Kd.R_mono (Kd.R_keep (IsS111.apart (show IsS111 w _ g606 t603 t660 t661 from in4x_ HI606 NB606_601 NB606_602 NB606_633 NB606_648) (kr_ ((Kd.R_mono (Kd.R_far (p := ⟨gb648, 1, none⟩) (Kd.R_far (p := ⟨gb648, 0, none⟩) (Kd.R_mono HO636.out (fun k_ hk => (⟨hk, hk.2⟩ : _ ∧ k_ ≠ gb648))) (fun _ hk => hk.2) (.int .i64 t631)) (fun _ hk => hk.2) (.string t632)) (fun _ h_ => h_.1)))) (by decide)) hk (fun _ h => h.2)) (fun _ h => h.1)); replace HO658 := Aside0.mk (Kd.R_mono (Kd.R_keep (IsS111.apart (show IsS111 w _ g606 t603 t660 t661 from in4x_ HI606 NB606_601 NB606_602 NB606_633 NB606_648) (kf_ HO658 BK648) (by decide)) hk (fun _ h => h.2)) (fun _ h => h.1)); replace HO696 := Aside0.mk (Kd.R_mono (Kd.R_keep (IsS111.apart (show IsS111 w _ g606 t603 t660 t661 from in4x_ HI606 NB606_601 NB606_602 NB606_633 NB606_648) (kf_ HO696 BK648) (by decide)) hk (fun _ h => h.2)) (fun _ h => h.1)); replace BK648 := Aside0.mk (KeepBut.blk hk (g' := gb648) (o := .cells #[.int .i64 t631, .string t632] 28 (0, 0)) (kq_ BK648) NB648_606.out (by simp)); replace HB := Aside0.mk hb; replace HI606 := Aside0.mk hi; clear hb hk hi))
      replace HO614 := Aside0.mk (Kd.R_drew HO614.out)
      replace HO630 := Aside0.mk (Kd.R_drew HO630.out)
      replace HO636 := Aside0.mk (Kd.R_drew HO636.out)
      replace HO658 := Aside0.mk (Kd.R_drew HO658.out)
      replace HO696 := Aside0.mk (Kd.R_drew HO696.out)
      replace BK601 := Aside0.mk (blk_drew BK601.out)
      replace BK602 := Aside0.mk (blk_drew BK602.out)
      replace BK633 := Aside0.mk (blk_drew BK633.out)
      replace BK648 := Aside0.mk (blk_drew BK648.out)
      replace HI606 := Aside0.mk (IsS111.drew HI606.out)
      replace HB := Aside0.mk (below_drew1 HB.out)
      refine start_ (n := 8) (S := fun w' => w'.cell? ⟨gb633, 0, none⟩ = some (.slice Ao39 t628.length co39) ∧ w'.cell? ⟨gb633, 1, none⟩ = some (.int .i64 t631) ∧ w'.cell? ⟨gb633, 2, none⟩ = some (.string t632) ∧ w'.cell? ⟨gb648, 0, none⟩ = some (.int .i64 t631) ∧ w'.cell? ⟨gb648, 1, none⟩ = some (.string t632)) (ds := []) (lz_ 8 0) (by kernel_rfl) rfl rfl ⟨bc0_ BK633.out, bc1_ BK633.out, bc2_ BK633.out, bc0_ BK648.out, bc1_ BK648.out⟩ (fun hHeld => ?_); refine with_tabW spec_DrawExtend.tab26 spec_DrawExtend.bits26 (fun HT_ HW_ => ?_)
      generalize w347.drew = w348 at HO614 HO630 HO636 HO658 HO696 BK601 BK602 BK633 BK648 HI606 HB hHeld ⊢
      refine pt_ 1 96 2 ?_
      refine pt_ 3 98 10 ?_
      refine tt_ 0 95 11 ?_
      refine tt_ 2 97 15 ?_
      refine one_ (i := 4) (N := none) (lz_ 8 31) rfl rfl (one_of HT_.out (by kernel_rfl)) (by decide) (fun K hK => ?_)
      have hs349 := bc0_ BK601.out
      have hfs349 := blk_frozen BK601.out 0
      have hns349_1 := NB602_601.out
      have hns349_2 := NB633_601.out
      have hns349_3 := NB648_601.out
      have hms349_1 := NB601_602.out
      have hms349_2 := NB601_633.out
      have hms349_3 := NB601_648.out
      have hs350 := bc1_ BK601.out
      have hfs350 := blk_frozen BK601.out 1
      have hns350_1 := NB602_601.out
      have hns350_2 := NB633_601.out
      have hns350_3 := NB648_601.out
      have hms350_1 := NB601_602.out
      have hms350_2 := NB601_633.out
      have hms350_3 := NB601_648.out
      have hs351 := bc2_ BK601.out
      have hfs351 := blk_frozen BK601.out 2
      have hns351_1 := NB602_601.out
      have hns351_2 := NB633_601.out
      have hns351_3 := NB648_601.out
      have hms351_1 := NB601_602.out
      have hms351_2 := NB601_633.out
      have hms351_3 := NB601_648.out
      refine skip_ (w1 := ?_) (by rfl) rfl ?_ ?_
      rotate_left
      ·go_simp
       rfl
      refine hK.out _ _ ⟨((cell_far (p := ⟨gb601, _, none⟩) NB633_601.out _).trans (((cell_far (p := ⟨gb601, _, none⟩) NB633_601.out _).trans (((cell_far (p := ⟨gb601, _, none⟩) NB633_601.out _).trans (hHeld.1)))))), ((cell_far (p := ⟨gb601, _, none⟩) NB633_601.out _).trans (((cell_far (p := ⟨gb601, _, none⟩) NB633_601.out _).trans (((cell_far (p := ⟨gb601, _, none⟩) NB633_601.out _).trans (hHeld.2.1)))))), ((cell_far (p := ⟨gb601, _, none⟩) NB633_601.out _).trans (((cell_far (p := ⟨gb601, _, none⟩) NB633_601.out _).trans (((cell_far (p := ⟨gb601, _, none⟩) NB633_601.out _).trans (hHeld.2.2.1)))))), ((cell_far (p := ⟨gb601, _, none⟩) NB648_601.out _).trans (((cell_far (p := ⟨gb601, _, none⟩) NB648_601.out _).trans (((cell_far (p := ⟨gb601, _, none⟩) NB648_601.out _).trans (hHeld.2.2.2.1)))))), ((cell_far (p := ⟨gb601, _, none⟩) NB648_601.out _).trans (((cell_far (p := ⟨gb601, _, none⟩) NB648_601.out _).trans (((cell_far (p := ⟨gb601, _, none⟩) NB648_601.out _).trans (hHeld.2.2.2.2))))))⟩ (fun hHeld => ?_)
      clear hK K
      refine pt_ 5 3 63 ?_
      refine one_ (i := 6) (N := none) (lz_ 8 127) rfl rfl (one_of HT_.out (by kernel_rfl)) (by decide) (fun K hK => ?_)
      have hs352 := bc0_ BK602.out
      have hfs352 := blk_frozen BK602.out 0
      have hns352_0 := NB601_602.out
      have hns352_2 := NB633_602.out
      have hns352_3 := NB648_602.out
      have hms352_0 := NB602_601.out
      have hms352_2 := NB602_633.out
      have hms352_3 := NB602_648.out
      have hs353 := bc1_ BK602.out
      have hfs353 := blk_frozen BK602.out 1
      have hns353_0 := NB601_602.out
      have hns353_2 := NB633_602.out
      have hns353_3 := NB648_602.out
      have hms353_0 := NB602_601.out
      have hms353_2 := NB602_633.out
      have hms353_3 := NB602_648.out
      refine skip_ (w1 := ?_) (by rfl) rfl ?_ ?_
      rotate_left
      ·go_simp
       rfl
      refine hK.out _ _ ⟨((cell_far (p := ⟨gb602, _, none⟩) NB633_602.out _).trans (((cell_far (p := ⟨gb602, _, none⟩) NB633_602.out _).trans (hHeld.1)))), ((cell_far (p := ⟨gb602, _, none⟩) NB633_602.out _).trans (((cell_far (p := ⟨gb602, _, none⟩) NB633_602.out _).trans (hHeld.2.1)))), ((cell_far (p := ⟨gb602, _, none⟩) NB633_602.out _).trans (((cell_far (p := ⟨gb602, _, none⟩) NB633_602.out _).trans (hHeld.2.2.1)))), ((cell_far (p := ⟨gb602, _, none⟩) NB648_602.out _).trans (((cell_far (p := ⟨gb602, _, none⟩) NB648_602.out _).trans (hHeld.2.2.2.1)))), ((cell_far (p := ⟨gb602, _, none⟩) NB648_602.out _).trans (((cell_far (p := ⟨gb602, _, none⟩) NB648_602.out _).trans (hHeld.2.2.2.2))))⟩ (fun hHeld => ?_)
      clear hK K
      refine pt_ 7 5 255 ?_
      refine done_ (done_of HT_.out (by kernel_rfl)) ?_
      try go_wp2
      refine bodyPost_ret (results_list (rs := [.cell 2 31, .tmp 3, .cell 4 28, .tmp 5]) rfl (by simp) (.cell gb601 31 #[.slice Ao39 t628.length co39, .int .i64 t631, .string t632] (0, 0) _ rfl (by exact kq_ BK601) Try.underlying31 rfl (by kernel_rfl) (.tmp (.cell gb602 28 #[.int .i64 t631, .string t632] (0, 0) _ rfl (by exact kq_ BK602) Try.underlying28 rfl (by kernel_rfl) (.tmp .nil))))) rfl ?_
      exact ⟨_, _, _, by first | rfl | (simp [errW_none, errW_some] <;> rfl) | (simp only [← hji12]; first | rfl | (simp [errW_none, errW_some] <;> rfl)) | (simp [*, errW_none, errW_some] <;> rfl), by (with_reducible repeat (first | apply Kd.R_alloc | apply Kd.R_drewN | apply Kd.R_drew)); exact Kd.R_mono (Kd.R_far (p := ⟨gb602, 1, none⟩) (Kd.R_far (p := ⟨gb602, 0, none⟩) (Kd.R_far (p := ⟨gb601, 2, none⟩) (Kd.R_far (p := ⟨gb601, 1, none⟩) (Kd.R_far (p := ⟨gb601, 0, none⟩) (Kd.R_types (Kd.R_types HO630.out BK601.out (by decide)) BK602.out (by decide)) (fun _ hk => hk.1.2) (.slice Ao39 t628.length co39)) (fun _ hk => hk.1.2) (.int .i64 t631)) (fun _ hk => hk.1.2) (.string t632)) (fun _ hk => hk.2) (.int .i64 t631)) (fun _ hk => hk.2) (.string t632)) (fun _ hk => hk.1.1.2), by (with_reducible repeat (first | apply Kd.R_alloc | apply Kd.R_drewN | apply Kd.R_drew)); exact Kd.R_mono (Kd.R_far (p := ⟨gb602, 1, none⟩) (Kd.R_far (p := ⟨gb602, 0, none⟩) (Kd.R_far (p := ⟨gb601, 2, none⟩) (Kd.R_far (p := ⟨gb601, 1, none⟩) (Kd.R_far (p := ⟨gb601, 0, none⟩) (Kd.R_mono (Kd.R_types HO636.out BK601.out (by decide)) (fun k_ hk => (⟨hk, hk.1.1.2⟩ : _ ∧ k_ ≠ gb602))) (fun _ hk => hk.1.2) (.slice Ao39 t628.length co39)) (fun _ hk => hk.1.2) (.int .i64 t631)) (fun _ hk => hk.1.2) (.string t632)) (fun _ hk => hk.2) (.int .i64 t631)) (fun _ hk => hk.2) (.string t632)) (fun _ hk => trivial), by (with_reducible repeat (first | apply Kd.R_alloc | apply Kd.R_drewN | apply Kd.R_drew)); exact Kd.R_mono (Kd.R_far (p := ⟨gb602, 1, none⟩) (Kd.R_far (p := ⟨gb602, 0, none⟩) (Kd.R_far (p := ⟨gb601, 2, none⟩) (Kd.R_far (p := ⟨gb601, 1, none⟩) (Kd.R_far (p := ⟨gb601, 0, none⟩) (Kd.R_types (Kd.R_types HO696.out BK601.out (by decide)) BK602.out (by decide)) (fun _ hk => hk.1.2) (.slice Ao39 t628.length co39)) (fun _ hk => hk.1.2) (.int .i64 t631)) (fun _ hk => hk.1.2) (.string t632)) (fun _ hk => hk.2) (.int .i64 t631)) (fun _ hk => hk.2) (.string t632)) (fun _ hk => hk.1.1.1.2), by repeat (first | (with_reducible first | exact HB.out | apply below_alloc | apply pw_below_drewN | apply below_drew1 | refine below_set ?_ (IsS111.ge HI606.out) | refine below_set ?_ GE601.out | refine below_set ?_ GE602.out | refine below_set ?_ GE633.out | refine below_set ?_ GE648.out) | exact HB.out)⟩
     ·replace H := ip_ H; obtain ⟨c354, H⟩ := H
      have LMc354 := Aside0.mk c354
      clear c354
      obtain ⟨y700, hy700⟩ : ∃ y_ : List (S28), y_ = (t634 ++ [(⟨t631, t632⟩ : S28)]) := ⟨_, rfl⟩
      replace H : (some (t628, t631, t632, y700, t631, t632, y694)) = some (r1, r2, r3, r4, r5, r6, r7) := yh_ hy700 H
      have Ny700 := Aside0.mk hy700
      clear hy700
      replace H := so7_ H; obtain ⟨rfl, rfl, rfl, rfl, rfl, rfl, rfl⟩ := H
      try go_wp2_with (first | ((with_reducible refine gd_ 70 ?_); refine rl_ Kd.string 9 70 ([] : List ByteArray) [] ?_; intro v695 w389 ho390 hb hg_ hnew_; clear hg_ hnew_; (first | rw [← Ny694.out] at ho390 | (simp only [Int.reduceToNat] at ho390; rw [← Ny694.out] at ho390)); replace HO636 := rb_ HO636 hb; have HO696 := Aside0.mk (Kd.R_lower (Kd.R_new' (Kd.R_new' (Kd.R_new' ho390 (lt_ HO614)) (lt_ HO630)) (lt_ HO658)) (below_size (bs5_ HB (IsS111.ge HI606.out) GE601.out GE602.out GE633.out GE648.out))); replace HO614 := re_ HO614 ho390 hb; replace HO630 := re_ HO630 ho390 hb; replace HO658 := re_ HO658 ho390 hb; replace BK601 := kl_ BK601 hb; replace BK602 := kl_ BK602 hb; replace BK633 := kl_ BK633 hb; replace BK648 := kl_ BK648 hb; replace HB := Aside0.mk (below_step (bs5_ HB (IsS111.ge HI606.out) GE601.out GE602.out GE633.out GE648.out) hb); replace HI606 := Aside0.mk (IsS111.below (in4x_ HI606 NB606_601 NB606_602 NB606_633 NB606_648) hb); clear hb ho390; have hz391 := cz3_ BK633; have hz392 := cz2_ BK648) | ((with_reducible refine gk_ 75 ?_); refine gl_ 89 Try.func75 #[.pointer (some ⟨g606, 0, none⟩), .int .i64 3] ?_; (with_reducible refine (spec_l1Once.calls g606 t603 t660 t661 3 false t698 t699 w _ ?side1 ?side2 A307.out).mono ?_); (case side1 => exact in4x_ HI606 NB606_601 NB606_602 NB606_633 NB606_648); (case side2 => repeat (first | (with_reducible first | exact HB.out | apply below_alloc | apply pw_below_drewN | apply below_drew1 | refine below_set ?_ (IsS111.ge HI606.out) | refine below_set ?_ GE601.out | refine below_set ?_ GE602.out | refine below_set ?_ GE633.out | refine below_set ?_ GE648.out) | exact HB.out)); rintro e w393 ⟨rfl, hi, hb, hk⟩; refine ⟨_, rfl, ?_⟩; replace BK601 := Aside0.mk (KeepBut.blk hk (g' := gb601) (o := .cells #[.slice none 0 0, .int .i64 0, .string (⟨#[]⟩ : ByteArray)] 31 (0, 0)) (kq_ BK601) NB601_606.out (by simp)); replace BK602 := Aside0.mk (KeepBut.blk hk (g' := gb602) (o := .cells #[.int .i64 0, .string (⟨#[]⟩ : ByteArray)] 28 (0, 0)) (kq_ BK602) NB602_606.out (by simp)); replace HO614 := Aside0.mk (Kd.R_mono (Kd.R_keep (IsS111.apart (show IsS111 w _ g606 t603 t660 t661 from in4x_ HI606 NB606_601 NB606_602 NB606_633 NB606_648) (kf_ HO614 BK648) (by decide)) hk (fun _ h => h.2)) (fun _ h => h.1)); replace HO630 := Aside0.mk (Kd.R_mono (Kd.R_keep (IsS111.apart (show IsS111 w _ g606 t603 t660 t661 from in4x_ HI606 NB606_601 NB606_602 NB606_633 NB606_648) (kf_ HO630 BK648) (by decide)) hk (fun _ h => h.2)) (fun _ h => h.1)); replace BK633 := Aside0.mk (KeepBut.blk hk (g' := gb633) (o := .cells #[.slice Ao39 t628.length co39, .int .i64 t631, .string t632] 31 (0, 0)) (kq_ BK633) NB633_606.out (by simp)); replace HO636 := Aside0.mk (Kd.R_mono (Kd.R_keep (IsS111.apart (show IsS111 w _ g606 t603 t660 t661 from in4x_ HI606 NB606_601 NB606_602 NB606_633 NB606_648) (kr_ ((Kd.R_mono (Kd.R_far (p := ⟨gb648, 1, none⟩) (Kd.R_far (p := ⟨gb648, 0, none⟩) (Kd.R_mono HO636.out (fun k_ hk => (⟨hk, hk.2⟩ : _ ∧ k_ ≠ gb648))) (fun _ hk => hk.2) (.int .i64 t631)) (fun _ hk => hk.2) (.string t632)) (fun _ h_ => h_.1)))) (by decide)) hk (fun _ h => h.2)) (fun _ h => h.1)); replace HO658 := Aside0.mk (Kd.R_mono (Kd.R_keep (IsS111.apart (show IsS111 w _ g606 t603 t660 t661 from in4x_ HI606 NB606_601 NB606_602 NB606_633 NB606_648) (kf_ HO658 BK648) (by decide)) hk (fun _ h => h.2)) (fun _ h => h.1)); replace HO696 := Aside0.mk (Kd.R_mono (Kd.R_keep (IsS111.apart (show IsS111 w _ g606 t603 t660 t661 from in4x_ HI606 NB606_601 NB606_602 NB606_633 NB606_648) (kf_ HO696 BK648) (by decide)) hk (fun _ h => h.2)) (fun _ h => h.1)); replace BK648 := Aside0.mk (KeepBut.blk hk (g' := gb648) (o := .cells #[.int .i64 t631, .string t632] 28 (0, 0)) (kq_ BK648) NB648_606.out (by simp)); replace HB := Aside0.mk hb; replace HI606 := Aside0.mk hi; clear hb hk hi; have hz394 := cz2_ BK648) | ((with_reducible refine gate_builtin (b := .append) (xs := #[.tmp 91, .tmp 93]) rfl ?_); at_builtin; refine Kd.R_append k28 (w0 := w) w.heap.size rfl (.tmp 91) (.tmp 93) 35 28 (.agg #[(.int .i64 0), (.string ⟨#[]⟩)]) 24 rfl Try.underlying35 info28 rfl (by decide) (by omega) v635 t634 (⟨t631, t632⟩ : S28) [.int .i64 t631, .string t632] (fun k_ => k_ ≠ gb602 ∧ k_ ≠ gb648) (fun _ => False) rfl rfl ?aP (fun _ hk => hk.elim) ?aF ?aO ?aB ?aS ?aL ?_; (case aP => exact k28_mkM _ _ _ (⟨t631, t632⟩ : S28)); (case aB => exact (bs5_ HB (IsS111.ge HI606.out) GE601.out GE602.out GE633.out GE648.out)); (case aF => exact (fun k_ hk => ⟨Kd.freshB (kb_ BK602.out) k_ hk, Kd.freshB (kb_ BK648.out) k_ hk⟩)); (case aO => exact (kr_ (Kd.R_mono HO636.out (fun _ hk => ⟨hk.1.2, hk.2⟩)))); (case aS => exact (below_size (bs5_ HB (IsS111.ge HI606.out) GE601.out GE602.out GE633.out GE648.out))); (case aL => have := LMc354.out; omega); intro v701 w395 ho hb hg hat; rw [← Ny700.out] at ho; replace BK601 := kg_ BK601 HO636 hg; replace BK602 := Aside0.mk (blk_grown (kb_ BK602.out) hg (Kd.R_away HO636.out (fun _ hk => hk.1.2))); replace HI606 := Aside0.mk (IsS111.grown (in4x_ HI606 NB606_601 NB606_602 NB606_633 NB606_648) hg (IsS111.own_ne HI606.out HO636.out (by decide))); replace HO614 := Aside0.mk (Kd.R_over' (kr_ HO614.out) (Kd.R_typed (kr_ HO636.out)) (by decide) hg); replace HO630 := Aside0.mk (Kd.R_over' (kr_ HO630.out) (Kd.R_typed (kr_ HO636.out)) (by decide) hg); replace BK633 := kg_ BK633 HO636 hg; replace BK648 := Aside0.mk (blk_grown (kb_ BK648.out) hg (Kd.R_away HO636.out (fun _ hk => hk.2))); replace HO658 := Aside0.mk (Kd.R_over' (kr_ HO658.out) (Kd.R_typed (kr_ HO636.out)) (by decide) hg); replace HO696 := Aside0.mk (Kd.R_over' (kr_ HO696.out) (Kd.R_typed (kr_ HO636.out)) (by decide) hg); replace HB := Aside0.mk hb; have HO702 := Aside0.mk ho; clear HO636; clear ho hb hg hat))
      replace HO614 := Aside0.mk (Kd.R_drew HO614.out)
      replace HO630 := Aside0.mk (Kd.R_drew HO630.out)
      replace HO658 := Aside0.mk (Kd.R_drew HO658.out)
      replace HO696 := Aside0.mk (Kd.R_drew HO696.out)
      replace HO702 := Aside0.mk (Kd.R_drew HO702.out)
      replace BK601 := Aside0.mk (blk_drew BK601.out)
      replace BK602 := Aside0.mk (blk_drew BK602.out)
      replace BK633 := Aside0.mk (blk_drew BK633.out)
      replace BK648 := Aside0.mk (blk_drew BK648.out)
      replace HI606 := Aside0.mk (IsS111.drew HI606.out)
      replace HB := Aside0.mk (below_drew1 HB.out)
      refine start_ (n := 8) (S := fun w' => w'.cell? ⟨gb633, 0, none⟩ = some (.slice Ao39 t628.length co39) ∧ w'.cell? ⟨gb633, 1, none⟩ = some (.int .i64 t631) ∧ w'.cell? ⟨gb633, 2, none⟩ = some (.string t632) ∧ w'.cell? ⟨gb648, 0, none⟩ = some (.int .i64 t631) ∧ w'.cell? ⟨gb648, 1, none⟩ = some (.string t632)) (ds := []) (lz_ 8 0) (by kernel_rfl) rfl rfl ⟨bc0_ BK633.out, bc1_ BK633.out, bc2_ BK633.out, bc0_ BK648.out, bc1_ BK648.out⟩ (fun hHeld => ?_); refine with_tabW spec_DrawExtend.tab26 spec_DrawExtend.bits26 (fun HT_ HW_ => ?_)
      generalize w395.drew = w396 at HO614 HO630 HO658 HO696 HO702 BK601 BK602 BK633 BK648 HI606 HB hHeld ⊢
      refine pt_ 1 96 2 ?_
      refine pt_ 3 98 10 ?_
      refine tt_ 0 95 11 ?_
      refine tt_ 2 97 15 ?_
      refine one_ (i := 4) (N := none) (lz_ 8 31) rfl rfl (one_of HT_.out (by kernel_rfl)) (by decide) (fun K hK => ?_)
      have hs397 := bc0_ BK601.out
      have hfs397 := blk_frozen BK601.out 0
      have hns397_1 := NB602_601.out
      have hns397_2 := NB633_601.out
      have hns397_3 := NB648_601.out
      have hms397_1 := NB601_602.out
      have hms397_2 := NB601_633.out
      have hms397_3 := NB601_648.out
      have hs398 := bc1_ BK601.out
      have hfs398 := blk_frozen BK601.out 1
      have hns398_1 := NB602_601.out
      have hns398_2 := NB633_601.out
      have hns398_3 := NB648_601.out
      have hms398_1 := NB601_602.out
      have hms398_2 := NB601_633.out
      have hms398_3 := NB601_648.out
      have hs399 := bc2_ BK601.out
      have hfs399 := blk_frozen BK601.out 2
      have hns399_1 := NB602_601.out
      have hns399_2 := NB633_601.out
      have hns399_3 := NB648_601.out
      have hms399_1 := NB601_602.out
      have hms399_2 := NB601_633.out
      have hms399_3 := NB601_648.out
      refine skip_ (w1 := ?_) (by rfl) rfl ?_ ?_
      rotate_left
      ·go_simp
       rfl
      refine hK.out _ _ ⟨((cell_far (p := ⟨gb601, _, none⟩) NB633_601.out _).trans (((cell_far (p := ⟨gb601, _, none⟩) NB633_601.out _).trans (((cell_far (p := ⟨gb601, _, none⟩) NB633_601.out _).trans (hHeld.1)))))), ((cell_far (p := ⟨gb601, _, none⟩) NB633_601.out _).trans (((cell_far (p := ⟨gb601, _, none⟩) NB633_601.out _).trans (((cell_far (p := ⟨gb601, _, none⟩) NB633_601.out _).trans (hHeld.2.1)))))), ((cell_far (p := ⟨gb601, _, none⟩) NB633_601.out _).trans (((cell_far (p := ⟨gb601, _, none⟩) NB633_601.out _).trans (((cell_far (p := ⟨gb601, _, none⟩) NB633_601.out _).trans (hHeld.2.2.1)))))), ((cell_far (p := ⟨gb601, _, none⟩) NB648_601.out _).trans (((cell_far (p := ⟨gb601, _, none⟩) NB648_601.out _).trans (((cell_far (p := ⟨gb601, _, none⟩) NB648_601.out _).trans (hHeld.2.2.2.1)))))), ((cell_far (p := ⟨gb601, _, none⟩) NB648_601.out _).trans (((cell_far (p := ⟨gb601, _, none⟩) NB648_601.out _).trans (((cell_far (p := ⟨gb601, _, none⟩) NB648_601.out _).trans (hHeld.2.2.2.2))))))⟩ (fun hHeld => ?_)
      clear hK K
      refine pt_ 5 3 63 ?_
      refine one_ (i := 6) (N := none) (lz_ 8 127) rfl rfl (one_of HT_.out (by kernel_rfl)) (by decide) (fun K hK => ?_)
      have hs400 := bc0_ BK602.out
      have hfs400 := blk_frozen BK602.out 0
      have hns400_0 := NB601_602.out
      have hns400_2 := NB633_602.out
      have hns400_3 := NB648_602.out
      have hms400_0 := NB602_601.out
      have hms400_2 := NB602_633.out
      have hms400_3 := NB602_648.out
      have hs401 := bc1_ BK602.out
      have hfs401 := blk_frozen BK602.out 1
      have hns401_0 := NB601_602.out
      have hns401_2 := NB633_602.out
      have hns401_3 := NB648_602.out
      have hms401_0 := NB602_601.out
      have hms401_2 := NB602_633.out
      have hms401_3 := NB602_648.out
      refine skip_ (w1 := ?_) (by rfl) rfl ?_ ?_
      rotate_left
      ·go_simp
       rfl
      refine hK.out _ _ ⟨((cell_far (p := ⟨gb602, _, none⟩) NB633_602.out _).trans (((cell_far (p := ⟨gb602, _, none⟩) NB633_602.out _).trans (hHeld.1)))), ((cell_far (p := ⟨gb602, _, none⟩) NB633_602.out _).trans (((cell_far (p := ⟨gb602, _, none⟩) NB633_602.out _).trans (hHeld.2.1)))), ((cell_far (p := ⟨gb602, _, none⟩) NB633_602.out _).trans (((cell_far (p := ⟨gb602, _, none⟩) NB633_602.out _).trans (hHeld.2.2.1)))), ((cell_far (p := ⟨gb602, _, none⟩) NB648_602.out _).trans (((cell_far (p := ⟨gb602, _, none⟩) NB648_602.out _).trans (hHeld.2.2.2.1)))), ((cell_far (p := ⟨gb602, _, none⟩) NB648_602.out _).trans (((cell_far (p := ⟨gb602, _, none⟩) NB648_602.out _).trans (hHeld.2.2.2.2))))⟩ (fun hHeld => ?_)
      clear hK K
      refine pt_ 7 5 255 ?_
      refine done_ (done_of HT_.out (by kernel_rfl)) ?_
      try go_wp2
      refine bodyPost_ret (results_list (rs := [.cell 2 31, .tmp 3, .cell 4 28, .tmp 5]) rfl (by simp) (.cell gb601 31 #[.slice Ao39 t628.length co39, .int .i64 t631, .string t632] (0, 0) _ rfl (by exact kq_ BK601) Try.underlying31 rfl (by kernel_rfl) (.tmp (.cell gb602 28 #[.int .i64 t631, .string t632] (0, 0) _ rfl (by exact kq_ BK602) Try.underlying28 rfl (by kernel_rfl) (.tmp .nil))))) rfl ?_
      exact ⟨_, _, _, by first | rfl | (simp [errW_none, errW_some] <;> rfl) | (simp only [← hji12]; first | rfl | (simp [errW_none, errW_some] <;> rfl)) | (simp [*, errW_none, errW_some] <;> rfl), by (with_reducible repeat (first | apply Kd.R_alloc | apply Kd.R_drewN | apply Kd.R_drew)); exact Kd.R_mono (Kd.R_far (p := ⟨gb602, 1, none⟩) (Kd.R_far (p := ⟨gb602, 0, none⟩) (Kd.R_far (p := ⟨gb601, 2, none⟩) (Kd.R_far (p := ⟨gb601, 1, none⟩) (Kd.R_far (p := ⟨gb601, 0, none⟩) (Kd.R_types (Kd.R_types HO630.out BK601.out (by decide)) BK602.out (by decide)) (fun _ hk => hk.1.2) (.slice Ao39 t628.length co39)) (fun _ hk => hk.1.2) (.int .i64 t631)) (fun _ hk => hk.1.2) (.string t632)) (fun _ hk => hk.2) (.int .i64 t631)) (fun _ hk => hk.2) (.string t632)) (fun _ hk => hk.1.1.2), by (with_reducible repeat (first | apply Kd.R_alloc | apply Kd.R_drewN | apply Kd.R_drew)); exact Kd.R_mono (Kd.R_far (p := ⟨gb602, 1, none⟩) (Kd.R_far (p := ⟨gb602, 0, none⟩) (Kd.R_far (p := ⟨gb601, 2, none⟩) (Kd.R_far (p := ⟨gb601, 1, none⟩) (Kd.R_far (p := ⟨gb601, 0, none⟩) (Kd.R_mono (Kd.R_types HO702.out BK601.out (by decide)) (fun k_ hk => (⟨hk, hk.1.1⟩ : _ ∧ k_ ≠ gb602))) (fun _ hk => hk.1.2) (.slice Ao39 t628.length co39)) (fun _ hk => hk.1.2) (.int .i64 t631)) (fun _ hk => hk.1.2) (.string t632)) (fun _ hk => hk.2) (.int .i64 t631)) (fun _ hk => hk.2) (.string t632)) (fun _ hk => trivial), by (with_reducible repeat (first | apply Kd.R_alloc | apply Kd.R_drewN | apply Kd.R_drew)); exact Kd.R_mono (Kd.R_far (p := ⟨gb602, 1, none⟩) (Kd.R_far (p := ⟨gb602, 0, none⟩) (Kd.R_far (p := ⟨gb601, 2, none⟩) (Kd.R_far (p := ⟨gb601, 1, none⟩) (Kd.R_far (p := ⟨gb601, 0, none⟩) (Kd.R_types (Kd.R_types HO696.out BK601.out (by decide)) BK602.out (by decide)) (fun _ hk => hk.1.2) (.slice Ao39 t628.length co39)) (fun _ hk => hk.1.2) (.int .i64 t631)) (fun _ hk => hk.1.2) (.string t632)) (fun _ hk => hk.2) (.int .i64 t631)) (fun _ hk => hk.2) (.string t632)) (fun _ hk => hk.1.1.1.2), by repeat (first | (with_reducible first | exact HB.out | apply below_alloc | apply pw_below_drewN | apply below_drew1 | refine below_set ?_ (IsS111.ge HI606.out) | refine below_set ?_ GE601.out | refine below_set ?_ GE602.out | refine below_set ?_ GE633.out | refine below_set ?_ GE648.out) | exact HB.out)⟩
    ·have c306b0 : (t659 == 3) = false := beq_eq_false_iff_ne.mpr c306
     have c306b1 : (t659 != 3) = true := bne_iff_ne.mpr c306
     replace H := it_ H; obtain ⟨c402, H⟩ | ⟨c402, H⟩ := H
     ·have c402b0 : (t659 == 4) = true := beq_iff_eq.mpr c402
      have c402b1 : (t659 != 4) = false := bne_eq_false_iff_eq.mpr c402
      clear c402
      replace H := bi_ H; obtain ⟨⟨t703, t706, t707⟩, A403, H⟩ := H
      dsimp only at H
      replace H := bi_ H; obtain ⟨⟨t708, t709, t710⟩, A404, H⟩ := H
      dsimp only at H
      replace H := itb_ H; obtain ⟨rfl, H⟩ | ⟨rfl, H⟩ := H
      ·replace H := so7_ H; obtain ⟨rfl, rfl, rfl, rfl, rfl, rfl, rfl⟩ := H
       try go_wp2_with (first | ((with_reducible refine gk_ 74 ?_); refine gl_ 76 Try.func74 #[.pointer (some ⟨g606, 0, none⟩)] ?_; (with_reducible refine (spec_l10Any.calls k g606 t603 t660 t661 t703 t706 t707 w _ ?side1 ?side2 A403.out).mono ?_); (case side1 => exact in4x_ HI606 NB606_601 NB606_602 NB606_633 NB606_648); (case side2 => repeat (first | (with_reducible first | exact HB.out | apply below_alloc | apply pw_below_drewN | apply below_drew1 | refine below_set ?_ (IsS111.ge HI606.out) | refine below_set ?_ GE601.out | refine below_set ?_ GE602.out | refine below_set ?_ GE633.out | refine below_set ?_ GE648.out) | exact HB.out)); rintro e w440 ⟨v704, rfl, ho0, hi, hb, hk⟩; refine ⟨_, rfl, ?_⟩; replace BK601 := Aside0.mk (KeepBut.blk hk (g' := gb601) (o := .cells #[.slice none 0 0, .int .i64 0, .string (⟨#[]⟩ : ByteArray)] 31 (0, 0)) (kb_ BK601.out) NB601_606.out (by simp)); replace HO614 := Aside0.mk (Kd.R_mono (Kd.R_keep (IsS111.apart (show IsS111 w _ g606 t603 t660 t661 from in4x_ HI606 NB606_601 NB606_602 NB606_633 NB606_648) (kr_ HO614.out) (by decide)) hk (fun _ h => h.2)) (fun _ h => h.1)); replace HO630 := Aside0.mk (Kd.R_mono (Kd.R_keep (IsS111.apart (show IsS111 w _ g606 t603 t660 t661 from in4x_ HI606 NB606_601 NB606_602 NB606_633 NB606_648) (kr_ HO630.out) (by decide)) hk (fun _ h => h.2)) (fun _ h => h.1)); replace BK633 := Aside0.mk (KeepBut.blk hk (g' := gb633) (o := .cells #[.slice Ao39 t628.length co39, .int .i64 t631, .string t632] 31 (0, 0)) (kb_ BK633.out) NB633_606.out (by simp)); replace HO658 := Aside0.mk (Kd.R_mono (Kd.R_keep (IsS111.apart (show IsS111 w _ g606 t603 t660 t661 from in4x_ HI606 NB606_601 NB606_602 NB606_633 NB606_648) (kr_ HO658.out) (by decide)) hk (fun _ h => h.2)) (fun _ h => h.1)); have HO705 := Aside0.mk (Kd.R_lower (Kd.R_newB (Kd.R_newB (Kd.R_new' ho0 (lt_ HO636)) (kb_ BK602.out)) (kb_ BK648.out)) (below_size (bs5_ HB (IsS111.ge HI606.out) GE601.out GE602.out GE633.out GE648.out))); replace BK602 := Aside0.mk (KeepBut.blk hk (g' := gb602) (o := .cells #[.int .i64 0, .string (⟨#[]⟩ : ByteArray)] 28 (0, 0)) (kb_ BK602.out) NB602_606.out (by simp)); replace HO636 := Aside0.mk (Kd.R_mono (Kd.R_told (Kd.R_oldK (IsS111.apart (show IsS111 w _ g606 t603 t660 t661 from in4x_ HI606 NB606_601 NB606_602 NB606_633 NB606_648) (kr_ HO636.out) (by decide)) hk) (Kd.R_base ho0)) (fun _ h_ => h_.1)); replace BK648 := Aside0.mk (KeepBut.blk hk (g' := gb648) (o := .cells #[.int .i64 t646, .string t647] 28 (0, 0)) (kb_ BK648.out) NB648_606.out (by simp)); replace HB := Aside0.mk hb; replace HI606 := Aside0.mk hi; clear hb hk hi ho0) | ((with_reducible refine gk_ 75 ?_); refine gl_ 89 Try.func75 #[.pointer (some ⟨g606, 0, none⟩), .int .i64 3] ?_; (with_reducible refine (spec_l1Once.calls g606 t603 t706 t707 3 true t709 t710 w _ ?side1 ?side2 A404.out).mono ?_); (case side1 => exact in4x_ HI606 NB606_601 NB606_602 NB606_633 NB606_648); (case side2 => repeat (first | (with_reducible first | exact HB.out | apply below_alloc | apply pw_below_drewN | apply below_drew1 | refine below_set ?_ (IsS111.ge HI606.out) | refine below_set ?_ GE601.out | refine below_set ?_ GE602.out | refine below_set ?_ GE633.out | refine below_set ?_ GE648.out) | exact HB.out)); rintro e w441 ⟨rfl, hi, hb, hk⟩; refine ⟨_, rfl, ?_⟩; replace BK601 := Aside0.mk (KeepBut.blk hk (g' := gb601) (o := .cells #[.slice none 0 0, .int .i64 0, .string (⟨#[]⟩ : ByteArray)] 31 (0, 0)) (kb_ BK601.out) NB601_606.out (by simp)); replace BK602 := Aside0.mk (KeepBut.blk hk (g' := gb602) (o := .cells #[.int .i64 0, .string (⟨#[]⟩ : ByteArray)] 28 (0, 0)) (kb_ BK602.out) NB602_606.out (by simp)); replace HO614 := Aside0.mk (Kd.R_mono (Kd.R_keep (IsS111.apart (show IsS111 w _ g606 t603 t706 t707 from in4x_ HI606 NB606_601 NB606_602 NB606_633 NB606_648) (kr_ HO614.out) (by decide)) hk (fun _ h => h.2)) (fun _ h => h.1)); replace HO630 := Aside0.mk (Kd.R_mono (Kd.R_keep (IsS111.apart (show IsS111 w _ g606 t603 t706 t707 from in4x_ HI606 NB606_601 NB606_602 NB606_633 NB606_648) (kr_ HO630.out) (by decide)) hk (fun _ h => h.2)) (fun _ h => h.1)); replace BK633 := Aside0.mk (KeepBut.blk hk (g' := gb633) (o := .cells #[.slice Ao39 t628.length co39, .int .i64 t631, .string t632] 31 (0, 0)) (kb_ BK633.out) NB633_606.out (by simp)); replace HO636 := Aside0.mk (Kd.R_mono (Kd.R_keep (IsS111.apart (show IsS111 w _ g606 t603 t706 t707 from in4x_ HI606 NB606_601 NB606_602 NB606_633 NB606_648) (kr_ HO636.out) (by decide)) hk (fun _ h => h.2)) (fun _ h => h.1)); replace BK648 := Aside0.mk (KeepBut.blk hk (g' := gb648) (o := .cells #[.int .i64 t646, .string t647] 28 (0, 0)) (kb_ BK648.out) NB648_606.out (by simp)); replace HO658 := Aside0.mk (Kd.R_mono (Kd.R_keep (IsS111.apart (show IsS111 w _ g606 t603 t706 t707 from in4x_ HI606 NB606_601 NB606_602 NB606_633 NB606_648) (kr_ HO658.out) (by decide)) hk (fun _ h => h.2)) (fun _ h => h.1)); replace HO705 := Aside0.mk (Kd.R_mono (Kd.R_keep (IsS111.apart (show IsS111 w _ g606 t603 t706 t707 from in4x_ HI606 NB606_601 NB606_602 NB606_633 NB606_648) (kr_ HO705.out) (by decide)) hk (fun _ h => h.2)) (fun _ h => h.1)); replace HB := Aside0.mk hb; replace HI606 := Aside0.mk hi; clear hb hk hi))
       replace HO614 := Aside0.mk (Kd.R_drew HO614.out)
       replace HO630 := Aside0.mk (Kd.R_drew HO630.out)
       replace HO636 := Aside0.mk (Kd.R_drew HO636.out)
       replace HO658 := Aside0.mk (Kd.R_drew HO658.out)
       replace HO705 := Aside0.mk (Kd.R_drew HO705.out)
       replace BK601 := Aside0.mk (blk_drew BK601.out)
       replace BK602 := Aside0.mk (blk_drew BK602.out)
       replace BK633 := Aside0.mk (blk_drew BK633.out)
       replace BK648 := Aside0.mk (blk_drew BK648.out)
       replace HI606 := Aside0.mk (IsS111.drew HI606.out)
       replace HB := Aside0.mk (below_drew1 HB.out)
       refine start_ (n := 8) (S := fun w' => w'.cell? ⟨gb633, 0, none⟩ = some (.slice Ao39 t628.length co39) ∧ w'.cell? ⟨gb633, 1, none⟩ = some (.int .i64 t631) ∧ w'.cell? ⟨gb633, 2, none⟩ = some (.string t632) ∧ w'.cell? ⟨gb648, 0, none⟩ = some (.int .i64 t646) ∧ w'.cell? ⟨gb648, 1, none⟩ = some (.string t647)) (ds := []) (lz_ 8 0) (by kernel_rfl) rfl rfl ⟨bc0_ BK633.out, bc1_ BK633.out, bc2_ BK633.out, bc0_ BK648.out, bc1_ BK648.out⟩ (fun hHeld => ?_); refine with_tabW spec_DrawExtend.tab26 spec_DrawExtend.bits26 (fun HT_ HW_ => ?_)
       generalize w441.drew = w442 at HO614 HO630 HO636 HO658 HO705 BK601 BK602 BK633 BK648 HI606 HB hHeld ⊢
       refine pt_ 1 96 2 ?_
       refine pt_ 3 98 10 ?_
       refine tt_ 0 95 11 ?_
       refine tt_ 2 97 15 ?_
       refine one_ (i := 4) (N := none) (lz_ 8 31) rfl rfl (one_of HT_.out (by kernel_rfl)) (by decide) (fun K hK => ?_)
       have hs443 := bc0_ BK601.out
       have hfs443 := blk_frozen BK601.out 0
       have hns443_1 := NB602_601.out
       have hns443_2 := NB633_601.out
       have hns443_3 := NB648_601.out
       have hms443_1 := NB601_602.out
       have hms443_2 := NB601_633.out
       have hms443_3 := NB601_648.out
       have hs444 := bc1_ BK601.out
       have hfs444 := blk_frozen BK601.out 1
       have hns444_1 := NB602_601.out
       have hns444_2 := NB633_601.out
       have hns444_3 := NB648_601.out
       have hms444_1 := NB601_602.out
       have hms444_2 := NB601_633.out
       have hms444_3 := NB601_648.out
       have hs445 := bc2_ BK601.out
       have hfs445 := blk_frozen BK601.out 2
       have hns445_1 := NB602_601.out
       have hns445_2 := NB633_601.out
       have hns445_3 := NB648_601.out
       have hms445_1 := NB601_602.out
       have hms445_2 := NB601_633.out
       have hms445_3 := NB601_648.out
       refine skip_ (w1 := ?_) (by rfl) rfl ?_ ?_
       rotate_left
       ·go_simp
        rfl
       refine hK.out _ _ ⟨((cell_far (p := ⟨gb601, _, none⟩) NB633_601.out _).trans (((cell_far (p := ⟨gb601, _, none⟩) NB633_601.out _).trans (((cell_far (p := ⟨gb601, _, none⟩) NB633_601.out _).trans (hHeld.1)))))), ((cell_far (p := ⟨gb601, _, none⟩) NB633_601.out _).trans (((cell_far (p := ⟨gb601, _, none⟩) NB633_601.out _).trans (((cell_far (p := ⟨gb601, _, none⟩) NB633_601.out _).trans (hHeld.2.1)))))), ((cell_far (p := ⟨gb601, _, none⟩) NB633_601.out _).trans (((cell_far (p := ⟨gb601, _, none⟩) NB633_601.out _).trans (((cell_far (p := ⟨gb601, _, none⟩) NB633_601.out _).trans (hHeld.2.2.1)))))), ((cell_far (p := ⟨gb601, _, none⟩) NB648_601.out _).trans (((cell_far (p := ⟨gb601, _, none⟩) NB648_601.out _).trans (((cell_far (p := ⟨gb601, _, none⟩) NB648_601.out _).trans (hHeld.2.2.2.1)))))), ((cell_far (p := ⟨gb601, _, none⟩) NB648_601.out _).trans (((cell_far (p := ⟨gb601, _, none⟩) NB648_601.out _).trans (((cell_far (p := ⟨gb601, _, none⟩) NB648_601.out _).trans (hHeld.2.2.2.2))))))⟩ (fun hHeld => ?_)
       clear hK K
       refine pt_ 5 3 63 ?_
       refine one_ (i := 6) (N := none) (lz_ 8 127) rfl rfl (one_of HT_.out (by kernel_rfl)) (by decide) (fun K hK => ?_)
       have hs446 := bc0_ BK602.out
       have hfs446 := blk_frozen BK602.out 0
       have hns446_0 := NB601_602.out
       have hns446_2 := NB633_602.out
       have hns446_3 := NB648_602.out
       have hms446_0 := NB602_601.out
       have hms446_2 := NB602_633.out
       have hms446_3 := NB602_648.out
       have hs447 := bc1_ BK602.out
       have hfs447 := blk_frozen BK602.out 1
       have hns447_0 := NB601_602.out
       have hns447_2 := NB633_602.out
       have hns447_3 := NB648_602.out
       have hms447_0 := NB602_601.out
       have hms447_2 := NB602_633.out
       have hms447_3 := NB602_648.out
       refine skip_ (w1 := ?_) (by rfl) rfl ?_ ?_
       rotate_left
       ·go_simp
        rfl
       refine hK.out _ _ ⟨((cell_far (p := ⟨gb602, _, none⟩) NB633_602.out _).trans (((cell_far (p := ⟨gb602, _, none⟩) NB633_602.out _).trans (hHeld.1)))), ((cell_far (p := ⟨gb602, _, none⟩) NB633_602.out _).trans (((cell_far (p := ⟨gb602, _, none⟩) NB633_602.out _).trans (hHeld.2.1)))), ((cell_far (p := ⟨gb602, _, none⟩) NB633_602.out _).trans (((cell_far (p := ⟨gb602, _, none⟩) NB633_602.out _).trans (hHeld.2.2.1)))), ((cell_far (p := ⟨gb602, _, none⟩) NB648_602.out _).trans (((cell_far (p := ⟨gb602, _, none⟩) NB648_602.out _).trans (hHeld.2.2.2.1)))), ((cell_far (p := ⟨gb602, _, none⟩) NB648_602.out _).trans (((cell_far (p := ⟨gb602, _, none⟩) NB648_602.out _).trans (hHeld.2.2.2.2))))⟩ (fun hHeld => ?_)
       clear hK K
       refine pt_ 7 5 255 ?_
       refine done_ (done_of HT_.out (by kernel_rfl)) ?_
       try go_wp2
       refine bodyPost_ret (results_list (rs := [.cell 2 31, .tmp 3, .cell 4 28, .tmp 5]) rfl (by simp) (.cell gb601 31 #[.slice Ao39 t628.length co39, .int .i64 t631, .string t632] (0, 0) _ rfl (by exact kq_ BK601) Try.underlying31 rfl (by kernel_rfl) (.tmp (.cell gb602 28 #[.int .i64 t646, .string t647] (0, 0) _ rfl (by exact kq_ BK602) Try.underlying28 rfl (by kernel_rfl) (.tmp .nil))))) rfl ?_
       exact ⟨_, _, _, by first | rfl | (simp [errW_none, errW_some] <;> rfl) | (simp only [← hji12]; first | rfl | (simp [errW_none, errW_some] <;> rfl)) | (simp [*, errW_none, errW_some] <;> rfl), by (with_reducible repeat (first | apply Kd.R_alloc | apply Kd.R_drewN | apply Kd.R_drew)); exact Kd.R_mono (Kd.R_far (p := ⟨gb602, 1, none⟩) (Kd.R_far (p := ⟨gb602, 0, none⟩) (Kd.R_far (p := ⟨gb601, 2, none⟩) (Kd.R_far (p := ⟨gb601, 1, none⟩) (Kd.R_far (p := ⟨gb601, 0, none⟩) (Kd.R_types (Kd.R_types HO630.out BK601.out (by decide)) BK602.out (by decide)) (fun _ hk => hk.1.2) (.slice Ao39 t628.length co39)) (fun _ hk => hk.1.2) (.int .i64 t631)) (fun _ hk => hk.1.2) (.string t632)) (fun _ hk => hk.2) (.int .i64 t646)) (fun _ hk => hk.2) (.string t647)) (fun _ hk => hk.1.1.2), by (with_reducible repeat (first | apply Kd.R_alloc | apply Kd.R_drewN | apply Kd.R_drew)); exact Kd.R_mono (Kd.R_far (p := ⟨gb602, 1, none⟩) (Kd.R_far (p := ⟨gb602, 0, none⟩) (Kd.R_far (p := ⟨gb601, 2, none⟩) (Kd.R_far (p := ⟨gb601, 1, none⟩) (Kd.R_far (p := ⟨gb601, 0, none⟩) (Kd.R_mono (Kd.R_types HO705.out BK601.out (by decide)) (fun k_ hk => (⟨hk, hk.1.1.2⟩ : _ ∧ k_ ≠ gb602))) (fun _ hk => hk.1.2) (.slice Ao39 t628.length co39)) (fun _ hk => hk.1.2) (.int .i64 t631)) (fun _ hk => hk.1.2) (.string t632)) (fun _ hk => hk.2) (.int .i64 t646)) (fun _ hk => hk.2) (.string t647)) (fun _ hk => trivial), by (with_reducible repeat (first | apply Kd.R_alloc | apply Kd.R_drewN | apply Kd.R_drew)); exact Kd.R_mono (Kd.R_far (p := ⟨gb602, 1, none⟩) (Kd.R_far (p := ⟨gb602, 0, none⟩) (Kd.R_far (p := ⟨gb601, 2, none⟩) (Kd.R_far (p := ⟨gb601, 1, none⟩) (Kd.R_far (p := ⟨gb601, 0, none⟩) (Kd.R_types (Kd.R_types HO658.out BK601.out (by decide)) BK602.out (by decide)) (fun _ hk => hk.1.2) (.slice Ao39 t628.length co39)) (fun _ hk => hk.1.2) (.int .i64 t631)) (fun _ hk => hk.1.2) (.string t632)) (fun _ hk => hk.2) (.int .i64 t646)) (fun _ hk => hk.2) (.string t647)) (fun _ hk => hk.1.1.2), by repeat (first | (with_reducible first | exact HB.out | apply below_alloc | apply pw_below_drewN | apply below_drew1 | refine below_set ?_ (IsS111.ge HI606.out) | refine below_set ?_ GE601.out | refine below_set ?_ GE602.out | refine below_set ?_ GE633.out | refine below_set ?_ GE648.out) | exact HB.out)⟩
      ·replace H := ip_ H; obtain ⟨c448, H⟩ := H
       have LMc448 := Aside0.mk c448
       clear c448
       obtain ⟨y711, hy711⟩ : ∃ y_ : List (S28), y_ = (t703 ++ [(⟨t646, t647⟩ : S28)]) := ⟨_, rfl⟩
       replace H : (some (t628, t631, t632, y711, t646, t647, y656)) = some (r1, r2, r3, r4, r5, r6, r7) := yh_ hy711 H
       have Ny711 := Aside0.mk hy711
       clear hy711
       replace H := so7_ H; obtain ⟨rfl, rfl, rfl, rfl, rfl, rfl, rfl⟩ := H
       try go_wp2_with (first | ((with_reducible refine gk_ 74 ?_); refine gl_ 76 Try.func74 #[.pointer (some ⟨g606, 0, none⟩)] ?_; (with_reducible refine (spec_l10Any.calls k g606 t603 t660 t661 t703 t706 t707 w _ ?side1 ?side2 A403.out).mono ?_); (case side1 => exact in4x_ HI606 NB606_601 NB606_602 NB606_633 NB606_648); (case side2 => repeat (first | (with_reducible first | exact HB.out | apply below_alloc | apply pw_below_drewN | apply below_drew1 | refine below_set ?_ (IsS111.ge HI606.out) | refine below_set ?_ GE601.out | refine below_set ?_ GE602.out | refine below_set ?_ GE633.out | refine below_set ?_ GE648.out) | exact HB.out)); rintro e w483 ⟨v704, rfl, ho0, hi, hb, hk⟩; refine ⟨_, rfl, ?_⟩; replace BK601 := Aside0.mk (KeepBut.blk hk (g' := gb601) (o := .cells #[.slice none 0 0, .int .i64 0, .string (⟨#[]⟩ : ByteArray)] 31 (0, 0)) (kb_ BK601.out) NB601_606.out (by simp)); replace HO614 := Aside0.mk (Kd.R_mono (Kd.R_keep (IsS111.apart (show IsS111 w _ g606 t603 t660 t661 from in4x_ HI606 NB606_601 NB606_602 NB606_633 NB606_648) (kr_ HO614.out) (by decide)) hk (fun _ h => h.2)) (fun _ h => h.1)); replace HO630 := Aside0.mk (Kd.R_mono (Kd.R_keep (IsS111.apart (show IsS111 w _ g606 t603 t660 t661 from in4x_ HI606 NB606_601 NB606_602 NB606_633 NB606_648) (kr_ HO630.out) (by decide)) hk (fun _ h => h.2)) (fun _ h => h.1)); replace BK633 := Aside0.mk (KeepBut.blk hk (g' := gb633) (o := .cells #[.slice Ao39 t628.length co39, .int .i64 t631, .string t632] 31 (0, 0)) (kb_ BK633.out) NB633_606.out (by simp)); replace HO658 := Aside0.mk (Kd.R_mono (Kd.R_keep (IsS111.apart (show IsS111 w _ g606 t603 t660 t661 from in4x_ HI606 NB606_601 NB606_602 NB606_633 NB606_648) (kr_ HO658.out) (by decide)) hk (fun _ h => h.2)) (fun _ h => h.1)); have HO705 := Aside0.mk (Kd.R_lower (Kd.R_newB (Kd.R_newB (Kd.R_new' ho0 (lt_ HO636)) (kb_ BK602.out)) (kb_ BK648.out)) (below_size (bs5_ HB (IsS111.ge HI606.out) GE601.out GE602.out GE633.out GE648.out))); replace BK602 := Aside0.mk (KeepBut.blk hk (g' := gb602) (o := .cells #[.int .i64 0, .string (⟨#[]⟩ : ByteArray)] 28 (0, 0)) (kb_ BK602.out) NB602_606.out (by simp)); replace HO636 := Aside0.mk (Kd.R_mono (Kd.R_told (Kd.R_oldK (IsS111.apart (show IsS111 w _ g606 t603 t660 t661 from in4x_ HI606 NB606_601 NB606_602 NB606_633 NB606_648) (kr_ HO636.out) (by decide)) hk) (Kd.R_base ho0)) (fun _ h_ => h_.1)); replace BK648 := Aside0.mk (KeepBut.blk hk (g' := gb648) (o := .cells #[.int .i64 t646, .string t647] 28 (0, 0)) (kb_ BK648.out) NB648_606.out (by simp)); replace HB := Aside0.mk hb; replace HI606 := Aside0.mk hi; clear hb hk hi ho0) | ((with_reducible refine gk_ 75 ?_); refine gl_ 89 Try.func75 #[.pointer (some ⟨g606, 0, none⟩), .int .i64 3] ?_; (with_reducible refine (spec_l1Once.calls g606 t603 t706 t707 3 false t709 t710 w _ ?side1 ?side2 A404.out).mono ?_); (case side1 => exact in4x_ HI606 NB606_601 NB606_602 NB606_633 NB606_648); (case side2 => repeat (first | (with_reducible first | exact HB.out | apply below_alloc | apply pw_below_drewN | apply below_drew1 | refine below_set ?_ (IsS111.ge HI606.out) | refine below_set ?_ GE601.out | refine below_set ?_ GE602.out | refine below_set ?_ GE633.out | refine below_set ?_ GE648.out) | exact HB.out)); rintro e w484 ⟨rfl, hi, hb, hk⟩; refine ⟨_, rfl, ?_⟩; replace BK601 := Aside0.mk (KeepBut.blk hk (g' := gb601) (o := .cells #[.slice none 0 0, .int .i64 0, .string (⟨#[]⟩ : ByteArray)] 31 (0, 0)) (kb_ BK601.out) NB601_606.out (by simp)); replace BK602 := Aside0.mk (KeepBut.blk hk (g' := gb602) (o := .cells #[.int .i64 0, .string (⟨#[]⟩ : ByteArray)] 28 (0, 0)) (kb_ BK602.out) NB602_606.out (by simp)); replace HO614 := Aside0.mk (Kd.R_mono (Kd.R_keep (IsS111.apart (show IsS111 w _ g606 t603 t706 t707 from in4x_ HI606 NB606_601 NB606_602 NB606_633 NB606_648) (kr_ HO614.out) (by decide)) hk (fun _ h => h.2)) (fun _ h => h.1)); replace HO630 := Aside0.mk (Kd.R_mono (Kd.R_keep (IsS111.apart (show IsS111 w _ g606 t603 t706 t707 from in4x_ HI606 NB606_601 NB606_602 NB606_633 NB606_648) (kr_ HO630.out) (by decide)) hk (fun _ h => h.2)) (fun _ h => h.1)); replace BK633 := Aside0.mk (KeepBut.blk hk (g' := gb633) (o := .cells #[.slice Ao39 t628.length co39, .int .i64 t631, .string t632] 31 (0, 0)) (kb_ BK633.out) NB633_606.out (by simp)); replace HO636 := Aside0.mk (Kd.R_mono (Kd.R_keep (IsS111.apart (show IsS111 w _ g606 t603 t706 t707 from in4x_ HI606 NB606_601 NB606_602 NB606_633 NB606_648) (kr_ HO636.out) (by decide)) hk (fun _ h => h.2)) (fun _ h => h.1)); replace BK648 := Aside0.mk (KeepBut.blk hk (g' := gb648) (o := .cells #[.int .i64 t646, .string t647] 28 (0, 0)) (kb_ BK648.out) NB648_606.out (by simp)); replace HO658 := Aside0.mk (Kd.R_mono (Kd.R_keep (IsS111.apart (show IsS111 w _ g606 t603 t706 t707 from in4x_ HI606 NB606_601 NB606_602 NB606_633 NB606_648) (kr_ HO658.out) (by decide)) hk (fun _ h => h.2)) (fun _ h => h.1)); replace HO705 := Aside0.mk (Kd.R_mono (Kd.R_keep (IsS111.apart (show IsS111 w _ g606 t603 t706 t707 from in4x_ HI606 NB606_601 NB606_602 NB606_633 NB606_648) (kr_ HO705.out) (by decide)) hk (fun _ h => h.2)) (fun _ h => h.1)); replace HB := Aside0.mk hb; replace HI606 := Aside0.mk hi; clear hb hk hi; have hz485 := cz2_ BK648) | ((with_reducible refine gate_builtin (b := .append) (xs := #[.tmp 91, .tmp 93]) rfl ?_); at_builtin; refine Kd.R_append k28 (w0 := w) w.heap.size rfl (.tmp 91) (.tmp 93) 35 28 (.agg #[(.int .i64 0), (.string ⟨#[]⟩)]) 24 rfl Try.underlying35 info28 rfl (by decide) (by omega) v704 t703 (⟨t646, t647⟩ : S28) [.int .i64 t646, .string t647] (fun k_ => some k_ ≠ (v635 : Value).ownBlock ∧ k_ ≠ gb602 ∧ k_ ≠ gb648) (fun _ => False) rfl rfl ?aP (fun _ hk => hk.elim) ?aF ?aO ?aB ?aS ?aL ?_; (case aP => exact k28_mkM _ _ _ (⟨t646, t647⟩ : S28)); (case aB => exact (bs5_ HB (IsS111.ge HI606.out) GE601.out GE602.out GE633.out GE648.out)); (case aF => exact (fun k_ hk => ⟨Kd.fresh' (lt_ HO636) k_ hk, Kd.freshB (kb_ BK602.out) k_ hk, Kd.freshB (kb_ BK648.out) k_ hk⟩)); (case aO => exact (kr_ (Kd.R_mono HO705.out (fun _ hk => ⟨hk.1.1.2, ⟨hk.1.2, hk.2⟩⟩)))); (case aS => exact (below_size (bs5_ HB (IsS111.ge HI606.out) GE601.out GE602.out GE633.out GE648.out))); (case aL => have := LMc448.out; omega); intro v712 w486 ho hb hg hat; rw [← Ny711.out] at ho; replace BK601 := kg_ BK601 HO705 hg; replace BK602 := Aside0.mk (blk_grown (kb_ BK602.out) hg (Kd.R_away HO705.out (fun _ hk => hk.1.2))); replace HI606 := Aside0.mk (IsS111.grown (in4x_ HI606 NB606_601 NB606_602 NB606_633 NB606_648) hg (IsS111.own_ne HI606.out HO705.out (by decide))); replace HO614 := Aside0.mk (Kd.R_over' (kr_ HO614.out) (Kd.R_typed (kr_ HO705.out)) (by decide) hg); replace HO630 := Aside0.mk (Kd.R_over' (kr_ HO630.out) (Kd.R_typed (kr_ HO705.out)) (by decide) hg); replace BK633 := kg_ BK633 HO705 hg; replace HO636 := Aside0.mk (Kd.R_after (ok := (fun k_ => k_ ≠ gb602 ∧ k_ ≠ gb648)) (kr_ (Kd.R_mono HO636.out (fun _ hk => ⟨⟨hk.1.1.2, hk.1.2⟩, hk.2⟩))) hg hat); replace BK648 := Aside0.mk (blk_grown (kb_ BK648.out) hg (Kd.R_away HO705.out (fun _ hk => hk.2))); replace HO658 := Aside0.mk (Kd.R_over' (kr_ HO658.out) (Kd.R_typed (kr_ HO705.out)) (by decide) hg); replace HB := Aside0.mk hb; have HO713 := Aside0.mk ho; clear HO705; clear ho hb hg hat))
       replace HO614 := Aside0.mk (Kd.R_drew HO614.out)
       replace HO630 := Aside0.mk (Kd.R_drew HO630.out)
       replace HO636 := Aside0.mk (Kd.R_drew HO636.out)
       replace HO658 := Aside0.mk (Kd.R_drew HO658.out)
       replace HO713 := Aside0.mk (Kd.R_drew HO713.out)
       replace BK601 := Aside0.mk (blk_drew BK601.out)
       replace BK602 := Aside0.mk (blk_drew BK602.out)
       replace BK633 := Aside0.mk (blk_drew BK633.out)
       replace BK648 := Aside0.mk (blk_drew BK648.out)
       replace HI606 := Aside0.mk (IsS111.drew HI606.out)
       replace HB := Aside0.mk (below_drew1 HB.out)
       refine start_ (n := 8) (S := fun w' => w'.cell? ⟨gb633, 0, none⟩ = some (.slice Ao39 t628.length co39) ∧ w'.cell? ⟨gb633, 1, none⟩ = some (.int .i64 t631) ∧ w'.cell? ⟨gb633, 2, none⟩ = some (.string t632) ∧ w'.cell? ⟨gb648, 0, none⟩ = some (.int .i64 t646) ∧ w'.cell? ⟨gb648, 1, none⟩ = some (.string t647)) (ds := []) (lz_ 8 0) (by kernel_rfl) rfl rfl ⟨bc0_ BK633.out, bc1_ BK633.out, bc2_ BK633.out, bc0_ BK648.out, bc1_ BK648.out⟩ (fun hHeld => ?_); refine with_tabW spec_DrawExtend.tab26 spec_DrawExtend.bits26 (fun HT_ HW_ => ?_)
       generalize w486.drew = w487 at HO614 HO630 HO636 HO658 HO713 BK601 BK602 BK633 BK648 HI606 HB hHeld ⊢
       refine pt_ 1 96 2 ?_
       refine pt_ 3 98 10 ?_
       refine tt_ 0 95 11 ?_
       refine tt_ 2 97 15 ?_
       refine one_ (i := 4) (N := none) (lz_ 8 31) rfl rfl (one_of HT_.out (by kernel_rfl)) (by decide) (fun K hK => ?_)
       have hs488 := bc0_ BK601.out
       have hfs488 := blk_frozen BK601.out 0
       have hns488_1 := NB602_601.out
       have hns488_2 := NB633_601.out
       have hns488_3 := NB648_601.out
       have hms488_1 := NB601_602.out
       have hms488_2 := NB601_633.out
       have hms488_3 := NB601_648.out
       have hs489 := bc1_ BK601.out
       have hfs489 := blk_frozen BK601.out 1
       have hns489_1 := NB602_601.out
       have hns489_2 := NB633_601.out
       have hns489_3 := NB648_601.out
       have hms489_1 := NB601_602.out
       have hms489_2 := NB601_633.out
       have hms489_3 := NB601_648.out
       have hs490 := bc2_ BK601.out
       have hfs490 := blk_frozen BK601.out 2
       have hns490_1 := NB602_601.out
       have hns490_2 := NB633_601.out
       have hns490_3 := NB648_601.out
       have hms490_1 := NB601_602.out
       have hms490_2 := NB601_633.out
       have hms490_3 := NB601_648.out
       refine skip_ (w1 := ?_) (by rfl) rfl ?_ ?_
       rotate_left
       ·go_simp
        rfl
       refine hK.out _ _ ⟨((cell_far (p := ⟨gb601, _, none⟩) NB633_601.out _).trans (((cell_far (p := ⟨gb601, _, none⟩) NB633_601.out _).trans (((cell_far (p := ⟨gb601, _, none⟩) NB633_601.out _).trans (hHeld.1)))))), ((cell_far (p := ⟨gb601, _, none⟩) NB633_601.out _).trans (((cell_far (p := ⟨gb601, _, none⟩) NB633_601.out _).trans (((cell_far (p := ⟨gb601, _, none⟩) NB633_601.out _).trans (hHeld.2.1)))))), ((cell_far (p := ⟨gb601, _, none⟩) NB633_601.out _).trans (((cell_far (p := ⟨gb601, _, none⟩) NB633_601.out _).trans (((cell_far (p := ⟨gb601, _, none⟩) NB633_601.out _).trans (hHeld.2.2.1)))))), ((cell_far (p := ⟨gb601, _, none⟩) NB648_601.out _).trans (((cell_far (p := ⟨gb601, _, none⟩) NB648_601.out _).trans (((cell_far (p := ⟨gb601, _, none⟩) NB648_601.out _).trans (hHeld.2.2.2.1)))))), ((cell_far (p := ⟨gb601, _, none⟩) NB648_601.out _).trans (((cell_far (p := ⟨gb601, _, none⟩) NB648_601.out _).trans (((cell_far (p := ⟨gb601, _, none⟩) NB648_601.out _).trans (hHeld.2.2.2.2))))))⟩ (fun hHeld => ?_)
       clear hK K
       refine pt_ 5 3 63 ?_
       refine one_ (i := 6) (N := none) (lz_ 8 127) rfl rfl (one_of HT_.out (by kernel_rfl)) (by decide) (fun K hK => ?_)
       have hs491 := bc0_ BK602.out
       have hfs491 := blk_frozen BK602.out 0
       have hns491_0 := NB601_602.out
       have hns491_2 := NB633_602.out
       have hns491_3 := NB648_602.out
       have hms491_0 := NB602_601.out
       have hms491_2 := NB602_633.out
       have hms491_3 := NB602_648.out
       have hs492 := bc1_ BK602.out
       have hfs492 := blk_frozen BK602.out 1
       have hns492_0 := NB601_602.out
       have hns492_2 := NB633_602.out
       have hns492_3 := NB648_602.out
       have hms492_0 := NB602_601.out
       have hms492_2 := NB602_633.out
       have hms492_3 := NB602_648.out
       refine skip_ (w1 := ?_) (by rfl) rfl ?_ ?_
       rotate_left
       ·go_simp
        rfl
       refine hK.out _ _ ⟨((cell_far (p := ⟨gb602, _, none⟩) NB633_602.out _).trans (((cell_far (p := ⟨gb602, _, none⟩) NB633_602.out _).trans (hHeld.1)))), ((cell_far (p := ⟨gb602, _, none⟩) NB633_602.out _).trans (((cell_far (p := ⟨gb602, _, none⟩) NB633_602.out _).trans (hHeld.2.1)))), ((cell_far (p := ⟨gb602, _, none⟩) NB633_602.out _).trans (((cell_far (p := ⟨gb602, _, none⟩) NB633_602.out _).trans (hHeld.2.2.1)))), ((cell_far (p := ⟨gb602, _, none⟩) NB648_602.out _).trans (((cell_far (p := ⟨gb602, _, none⟩) NB648_602.out _).trans (hHeld.2.2.2.1)))), ((cell_far (p := ⟨gb602, _, none⟩) NB648_602.out _).trans (((cell_far (p := ⟨gb602, _, none⟩) NB648_602.out _).trans (hHeld.2.2.2.2))))⟩ (fun hHeld => ?_)
       clear hK K
       refine pt_ 7 5 255 ?_
       refine done_ (done_of HT_.out (by kernel_rfl)) ?_
       try go_wp2
       refine bodyPost_ret (results_list (rs := [.cell 2 31, .tmp 3, .cell 4 28, .tmp 5]) rfl (by simp) (.cell gb601 31 #[.slice Ao39 t628.length co39, .int .i64 t631, .string t632] (0, 0) _ rfl (by exact kq_ BK601) Try.underlying31 rfl (by kernel_rfl) (.tmp (.cell gb602 28 #[.int .i64 t646, .string t647] (0, 0) _ rfl (by exact kq_ BK602) Try.underlying28 rfl (by kernel_rfl) (.tmp .nil))))) rfl ?_
       exact ⟨_, _, _, by first | rfl | (simp [errW_none, errW_some] <;> rfl) | (simp only [← hji12]; first | rfl | (simp [errW_none, errW_some] <;> rfl)) | (simp [*, errW_none, errW_some] <;> rfl), by (with_reducible repeat (first | apply Kd.R_alloc | apply Kd.R_drewN | apply Kd.R_drew)); exact Kd.R_mono (Kd.R_far (p := ⟨gb602, 1, none⟩) (Kd.R_far (p := ⟨gb602, 0, none⟩) (Kd.R_far (p := ⟨gb601, 2, none⟩) (Kd.R_far (p := ⟨gb601, 1, none⟩) (Kd.R_far (p := ⟨gb601, 0, none⟩) (Kd.R_types (Kd.R_types HO630.out BK601.out (by decide)) BK602.out (by decide)) (fun _ hk => hk.1.2) (.slice Ao39 t628.length co39)) (fun _ hk => hk.1.2) (.int .i64 t631)) (fun _ hk => hk.1.2) (.string t632)) (fun _ hk => hk.2) (.int .i64 t646)) (fun _ hk => hk.2) (.string t647)) (fun _ hk => hk.1.1.2), by (with_reducible repeat (first | apply Kd.R_alloc | apply Kd.R_drewN | apply Kd.R_drew)); exact Kd.R_mono (Kd.R_far (p := ⟨gb602, 1, none⟩) (Kd.R_far (p := ⟨gb602, 0, none⟩) (Kd.R_far (p := ⟨gb601, 2, none⟩) (Kd.R_far (p := ⟨gb601, 1, none⟩) (Kd.R_far (p := ⟨gb601, 0, none⟩) (Kd.R_mono (Kd.R_types HO713.out BK601.out (by decide)) (fun k_ hk => (⟨hk, hk.1.2.1⟩ : _ ∧ k_ ≠ gb602))) (fun _ hk => hk.1.2) (.slice Ao39 t628.length co39)) (fun _ hk => hk.1.2) (.int .i64 t631)) (fun _ hk => hk.1.2) (.string t632)) (fun _ hk => hk.2) (.int .i64 t646)) (fun _ hk => hk.2) (.string t647)) (fun _ hk => trivial), by (with_reducible repeat (first | apply Kd.R_alloc | apply Kd.R_drewN | apply Kd.R_drew)); exact Kd.R_mono (Kd.R_far (p := ⟨gb602, 1, none⟩) (Kd.R_far (p := ⟨gb602, 0, none⟩) (Kd.R_far (p := ⟨gb601, 2, none⟩) (Kd.R_far (p := ⟨gb601, 1, none⟩) (Kd.R_far (p := ⟨gb601, 0, none⟩) (Kd.R_types (Kd.R_types HO658.out BK601.out (by decide)) BK602.out (by decide)) (fun _ hk => hk.1.2) (.slice Ao39 t628.length co39)) (fun _ hk => hk.1.2) (.int .i64 t631)) (fun _ hk => hk.1.2) (.string t632)) (fun _ hk => hk.2) (.int .i64 t646)) (fun _ hk => hk.2) (.string t647)) (fun _ hk => hk.1.1.2), by repeat (first | (with_reducible first | exact HB.out | apply below_alloc | apply pw_below_drewN | apply below_drew1 | refine below_set ?_ (IsS111.ge HI606.out) | refine below_set ?_ GE601.out | refine below_set ?_ GE602.out | refine below_set ?_ GE633.out | refine below_set ?_ GE648.out) | exact HB.out)⟩
     ·have c402b0 : (t659 == 4) = false := beq_eq_false_iff_ne.mpr c402
      have c402b1 : (t659 != 4) = true := bne_iff_ne.mpr c402
      replace H := it_ H; obtain ⟨c493, H⟩ | ⟨c493, H⟩ := H
      ·have c493b0 : (t659 == 5) = true := beq_iff_eq.mpr c493
       have c493b1 : (t659 != 5) = false := bne_eq_false_iff_eq.mpr c493
       clear c493
       replace H := ip_ H; obtain ⟨c494, H⟩ := H
       have LMc494 := Aside0.mk c494
       clear c494
       obtain ⟨y714, Ny714, H⟩ := sb_ (t634 ++ [(⟨t646, t647⟩ : S28)]) H
       generalize hji495 : (wrap64 ((y656.length : Int) - 1)) = ji495 at H
       (try rw [hji495] at A2)
       (try rw [hji495] at A3)
       (try rw [hji495] at A5)
       (try rw [hji495] at A9)
       (try rw [hji495] at A10)
       (try rw [hji495] at A11)
       (try rw [hji495] at A15)
       (try rw [hji495] at A20)
       have hji495w : (IntKind.i64.wrap ((y656.length : Int) - 1)) = ji495 := (i64_w _).trans hji495
       replace H := ipd_ H; obtain ⟨c496b0, H⟩ := H
       replace H := ipd_ H; obtain ⟨c497b0, H⟩ := H
       obtain ⟨y717, Ny717, H⟩ := sb_ (y656.set ((ji495) : Int).toNat (⟨#[98, 101, 110, 116]⟩ : ByteArray)) H
       replace H := bi_ H; obtain ⟨⟨t718, t719, t720⟩, A499, H⟩ := H
       dsimp only at H
       replace H := itb_ H; obtain ⟨rfl, H⟩ | ⟨rfl, H⟩ := H
       ·replace H := so7_ H; obtain ⟨rfl, rfl, rfl, rfl, rfl, rfl, rfl⟩ := H
        have hz535 := cz2_ BK648
        try go_wp2_with (first | ((with_reducible refine gate_builtin (b := .append) (xs := #[.tmp 79, .tmp 81]) rfl ?_); at_builtin; refine Kd.R_append k28 (w0 := w) w.heap.size rfl (.tmp 79) (.tmp 81) 35 28 (.agg #[(.int .i64 0), (.string ⟨#[]⟩)]) 24 rfl Try.underlying35 info28 rfl (by decide) (by omega) v635 t634 (⟨t646, t647⟩ : S28) [.int .i64 t646, .string t647] (fun k_ => k_ ≠ gb602 ∧ k_ ≠ gb648) (fun _ => False) rfl rfl ?aP (fun _ hk => hk.elim) ?aF ?aO ?aB ?aS ?aL ?_; (case aP => exact k28_mkM _ _ _ (⟨t646, t647⟩ : S28)); (case aB => exact (bs5_ HB (IsS111.ge HI606.out) GE601.out GE602.out GE633.out GE648.out)); (case aF => exact (fun k_ hk => ⟨Kd.freshB (kb_ BK602.out) k_ hk, Kd.freshB (kb_ BK648.out) k_ hk⟩)); (case aO => exact (kr_ (Kd.R_mono HO636.out (fun _ hk => ⟨hk.1.2, hk.2⟩)))); (case aS => exact (below_size (bs5_ HB (IsS111.ge HI606.out) GE601.out GE602.out GE633.out GE648.out))); (case aL => have := LMc494.out; omega); intro v715 w536 ho hb hg hat; rw [← Ny714.out] at ho; replace BK601 := kg_ BK601 HO636 hg; replace BK602 := Aside0.mk (blk_grown (kb_ BK602.out) hg (Kd.R_away HO636.out (fun _ hk => hk.1.2))); replace HI606 := Aside0.mk (IsS111.grown (in4x_ HI606 NB606_601 NB606_602 NB606_633 NB606_648) hg (IsS111.own_ne HI606.out HO636.out (by decide))); replace HO614 := Aside0.mk (Kd.R_over' (kr_ HO614.out) (Kd.R_typed (kr_ HO636.out)) (by decide) hg); replace HO630 := Aside0.mk (Kd.R_over' (kr_ HO630.out) (Kd.R_typed (kr_ HO636.out)) (by decide) hg); replace BK633 := kg_ BK633 HO636 hg; replace BK648 := Aside0.mk (blk_grown (kb_ BK648.out) hg (Kd.R_away HO636.out (fun _ hk => hk.2))); replace HO658 := Aside0.mk (Kd.R_over' (kr_ HO658.out) (Kd.R_typed (kr_ HO636.out)) (by decide) hg); replace HB := Aside0.mk hb; have HO716 := Aside0.mk ho; clear HO636; clear ho hb hg hat; obtain ⟨Ao537, co537, eo537⟩ := Kd.R_slice HO658.out; subst eo537; have p498 : 0 ≤ ((ji495) : Int) := of_decide_eq_true as_; have q498 : ((ji495) : Int) < ((y656.length : Int) : Int) := of_decide_eq_true as_; obtain ⟨go498, co498, eo498, gb498, gl498, cl498, HG498⟩ := Kd.R_form HO658.out (by omega); (first | cases eo498 | (injection eo498 with ea_ en_ ec_; (first | subst ea_ | (injection ea_ with ea_; subst ea_)); subst ec_; clear en_)); have GB498 := Aside0.mk gb498; have GG498 := Aside0.mk HG498; clear gb498 gl498 HG498; obtain ⟨hx498_0, hf498_0⟩ := Kd.R_celln (⟨#[]⟩ : ByteArray) HO658.out ((ji495) : Int) p498 q498; replace p498 := eq_true p498; replace q498 := eq_true q498; obtain ⟨hy538_, hz538_⟩ := Kd.R_celln (⟨#[]⟩ : ByteArray) HO658.out ((ji495) : Int) (of_decide_eq_true as_) (of_decide_eq_true as_); have HP538 := Kd.R_putg HO658.out ((ji495) : Int) (⟨#[98, 101, 110, 116]⟩ : ByteArray)) | ((with_reducible refine gate_store (t := 9) (p := 87) rfl ?_); refine store_event (t := 9) (p := 87) (v := ?vo_w539) (w1 := (w536.setCell ⟨go498, ((ji495) : Int).toNat, none⟩ (.string (⟨#[98, 101, 110, 116]⟩ : ByteArray)))) ?hg ?ho ?hn ?hr ?_; (case ho => rfl); (case hg => rfl); (case hn => rfl); (case hr => first | (go_simp; done) | (go_simp; rfl)); intro w539 hw; have hg : w536.grownBy w539 (some go498) := (by rw [hw]; exact HP538.2); have hp_ : Kd.R Kd.string 9 w539 w.heap.size (fun k_ => some k_ ≠ (.slice Ao30 y612.length co30 : Value).ownBlock ∧ some k_ ≠ (.slice Ao39 t628.length co39 : Value).ownBlock) (.slice (some ⟨go498, 0, none⟩) y656.length co537) y717 := (by rw [hw, Ny717.out]; exact HP538.1); clear HP538; replace BK601 := kg_ BK601 HO658 hg; replace BK602 := kg_ BK602 HO658 hg; replace HI606 := Aside0.mk (IsS111.grown (in4x_ HI606 NB606_601 NB606_602 NB606_633 NB606_648) hg (IsS111.own_ne HI606.out HO658.out (by decide))); replace HO614 := Aside0.mk (Kd.R_after (v := (.slice (some ⟨go498, 0, none⟩) y656.length co537)) (v1 := (.slice (some ⟨go498, 0, none⟩) y656.length co537)) (ok := (fun k_ => some k_ ≠ (.slice Ao39 t628.length co39 : Value).ownBlock)) (kr_ HO614.out) hg (.inl rfl)); replace HO630 := Aside0.mk (Kd.R_after (v := (.slice (some ⟨go498, 0, none⟩) y656.length co537)) (v1 := (.slice (some ⟨go498, 0, none⟩) y656.length co537)) (ok := (fun k_ => some k_ ≠ (.slice Ao30 y612.length co30 : Value).ownBlock)) (kr_ HO630.out) hg (.inl rfl)); replace BK633 := kg_ BK633 HO658 hg; replace BK648 := kg_ BK648 HO658 hg; replace HO716 := Aside0.mk (Kd.R_over' (v := (.slice (some ⟨go498, 0, none⟩) y656.length co537)) (kr_ HO716.out) (Kd.R_typed HO658.out) (by decide) hg); replace HO658 := Aside0.mk hp_; replace HB := Aside0.mk ((by rw [hw]; exact below_set (HB.out) GB498.out : Below w.heap.size w w539)); clear hg hw hp_) | ((with_reducible refine gk_ 75 ?_); refine gl_ 89 Try.func75 #[.pointer (some ⟨g606, 0, none⟩), .int .i64 3] ?_; (with_reducible refine (spec_l1Once.calls g606 t603 t660 t661 3 true t719 t720 w _ ?side1 ?side2 A499.out).mono ?_); (case side1 => exact in4x_ HI606 NB606_601 NB606_602 NB606_633 NB606_648); (case side2 => repeat (first | (with_reducible first | exact HB.out | apply below_alloc | apply pw_below_drewN | apply below_drew1 | refine below_set ?_ (IsS111.ge HI606.out) | refine below_set ?_ GE601.out | refine below_set ?_ GE602.out | refine below_set ?_ GE633.out | refine below_set ?_ GE648.out) | exact HB.out)); rintro e w540 ⟨rfl, hi, hb, hk⟩; refine ⟨_, rfl, ?_⟩; replace BK601 := Aside0.mk (KeepBut.blk hk (g' := gb601) (o := .cells #[.slice none 0 0, .int .i64 0, .string (⟨#[]⟩ : ByteArray)] 31 (0, 0)) (kb_ BK601.out) NB601_606.out (by simp)); replace BK602 := Aside0.mk (KeepBut.blk hk (g' := gb602) (o := .cells #[.int .i64 0, .string (⟨#[]⟩ : ByteArray)] 28 (0, 0)) (kb_ BK602.out) NB602_606.out (by simp)); replace HO614 := Aside0.mk (Kd.R_mono (Kd.R_keep (IsS111.apart (show IsS111 w _ g606 t603 t660 t661 from in4x_ HI606 NB606_601 NB606_602 NB606_633 NB606_648) (kr_ HO614.out) (by decide)) hk (fun _ h => h.2)) (fun _ h => h.1)); replace HO630 := Aside0.mk (Kd.R_mono (Kd.R_keep (IsS111.apart (show IsS111 w _ g606 t603 t660 t661 from in4x_ HI606 NB606_601 NB606_602 NB606_633 NB606_648) (kr_ HO630.out) (by decide)) hk (fun _ h => h.2)) (fun _ h => h.1)); replace BK633 := Aside0.mk (KeepBut.blk hk (g' := gb633) (o := .cells #[.slice Ao39 t628.length co39, .int .i64 t631, .string t632] 31 (0, 0)) (kb_ BK633.out) NB633_606.out (by simp)); replace BK648 := Aside0.mk (KeepBut.blk hk (g' := gb648) (o := .cells #[.int .i64 t646, .string t647] 28 (0, 0)) (kb_ BK648.out) NB648_606.out (by simp)); replace HO658 := Aside0.mk (Kd.R_mono (Kd.R_keep (IsS111.apart (show IsS111 w _ g606 t603 t660 t661 from in4x_ HI606 NB606_601 NB606_602 NB606_633 NB606_648) (kr_ HO658.out) (by decide)) hk (fun _ h => h.2)) (fun _ h => h.1)); replace HO716 := Aside0.mk (Kd.R_mono (Kd.R_keep (IsS111.apart (show IsS111 w _ g606 t603 t660 t661 from in4x_ HI606 NB606_601 NB606_602 NB606_633 NB606_648) (kr_ HO716.out) (by decide)) hk (fun _ h => h.2)) (fun _ h => h.1)); replace HB := Aside0.mk hb; replace HI606 := Aside0.mk hi; clear hb hk hi))
        replace HO614 := Aside0.mk (Kd.R_drew HO614.out)
        replace HO630 := Aside0.mk (Kd.R_drew HO630.out)
        replace HO658 := Aside0.mk (Kd.R_drew HO658.out)
        replace HO716 := Aside0.mk (Kd.R_drew HO716.out)
        replace BK601 := Aside0.mk (blk_drew BK601.out)
        replace BK602 := Aside0.mk (blk_drew BK602.out)
        replace BK633 := Aside0.mk (blk_drew BK633.out)
        replace BK648 := Aside0.mk (blk_drew BK648.out)
        replace HI606 := Aside0.mk (IsS111.drew HI606.out)
        replace HB := Aside0.mk (below_drew1 HB.out)
        refine start_ (n := 8) (S := fun w' => w'.cell? ⟨gb633, 0, none⟩ = some (.slice Ao39 t628.length co39) ∧ w'.cell? ⟨gb633, 1, none⟩ = some (.int .i64 t631) ∧ w'.cell? ⟨gb633, 2, none⟩ = some (.string t632) ∧ w'.cell? ⟨gb648, 0, none⟩ = some (.int .i64 t646) ∧ w'.cell? ⟨gb648, 1, none⟩ = some (.string t647)) (ds := []) (lz_ 8 0) (by kernel_rfl) rfl rfl ⟨bc0_ BK633.out, bc1_ BK633.out, bc2_ BK633.out, bc0_ BK648.out, bc1_ BK648.out⟩ (fun hHeld => ?_); refine with_tabW spec_DrawExtend.tab26 spec_DrawExtend.bits26 (fun HT_ HW_ => ?_)
        generalize w540.drew = w541 at HO614 HO630 HO658 HO716 BK601 BK602 BK633 BK648 HI606 HB hHeld ⊢
        refine pt_ 1 96 2 ?_
        refine pt_ 3 98 10 ?_
        refine tt_ 0 95 11 ?_
        refine tt_ 2 97 15 ?_
        refine one_ (i := 4) (N := none) (lz_ 8 31) rfl rfl (one_of HT_.out (by kernel_rfl)) (by decide) (fun K hK => ?_)
        have hs542 := bc0_ BK601.out
        have hfs542 := blk_frozen BK601.out 0
        have hns542_1 := NB602_601.out
        have hns542_2 := NB633_601.out
        have hns542_3 := NB648_601.out
        have hms542_1 := NB601_602.out
        have hms542_2 := NB601_633.out
        have hms542_3 := NB601_648.out
        have hs543 := bc1_ BK601.out
        have hfs543 := blk_frozen BK601.out 1
        have hns543_1 := NB602_601.out
        have hns543_2 := NB633_601.out
        have hns543_3 := NB648_601.out
        have hms543_1 := NB601_602.out
        have hms543_2 := NB601_633.out
        have hms543_3 := NB601_648.out
        have hs544 := bc2_ BK601.out
        have hfs544 := blk_frozen BK601.out 2
        have hns544_1 := NB602_601.out
        have hns544_2 := NB633_601.out
        have hns544_3 := NB648_601.out
        have hms544_1 := NB601_602.out
        have hms544_2 := NB601_633.out
        have hms544_3 := NB601_648.out
        refine skip_ (w1 := ?_) (by rfl) rfl ?_ ?_
        rotate_left
        ·go_simp
         rfl
        refine hK.out _ _ ⟨((cell_far (p := ⟨gb601, _, none⟩) NB633_601.out _).trans (((cell_far (p := ⟨gb601, _, none⟩) NB633_601.out _).trans (((cell_far (p := ⟨gb601, _, none⟩) NB633_601.out _).trans (hHeld.1)))))), ((cell_far (p := ⟨gb601, _, none⟩) NB633_601.out _).trans (((cell_far (p := ⟨gb601, _, none⟩) NB633_601.out _).trans (((cell_far (p := ⟨gb601, _, none⟩) NB633_601.out _).trans (hHeld.2.1)))))), ((cell_far (p := ⟨gb601, _, none⟩) NB633_601.out _).trans (((cell_far (p := ⟨gb601, _, none⟩) NB633_601.out _).trans (((cell_far (p := ⟨gb601, _, none⟩) NB633_601.out _).trans (hHeld.2.2.1)))))), ((cell_far (p := ⟨gb601, _, none⟩) NB648_601.out _).trans (((cell_far (p := ⟨gb601, _, none⟩) NB648_601.out _).trans (((cell_far (p := ⟨gb601, _, none⟩) NB648_601.out _).trans (hHeld.2.2.2.1)))))), ((cell_far (p := ⟨gb601, _, none⟩) NB648_601.out _).trans (((cell_far (p := ⟨gb601, _, none⟩) NB648_601.out _).trans (((cell_far (p := ⟨gb601, _, none⟩) NB648_601.out _).trans (hHeld.2.2.2.2))))))⟩ (fun hHeld => ?_)
        clear hK K
        refine pt_ 5 3 63 ?_
        refine one_ (i := 6) (N := none) (lz_ 8 127) rfl rfl (one_of HT_.out (by kernel_rfl)) (by decide) (fun K hK => ?_)
        have hs545 := bc0_ BK602.out
        have hfs545 := blk_frozen BK602.out 0
        have hns545_0 := NB601_602.out
        have hns545_2 := NB633_602.out
        have hns545_3 := NB648_602.out
        have hms545_0 := NB602_601.out
        have hms545_2 := NB602_633.out
        have hms545_3 := NB602_648.out
        have hs546 := bc1_ BK602.out
        have hfs546 := blk_frozen BK602.out 1
        have hns546_0 := NB601_602.out
        have hns546_2 := NB633_602.out
        have hns546_3 := NB648_602.out
        have hms546_0 := NB602_601.out
        have hms546_2 := NB602_633.out
        have hms546_3 := NB602_648.out
        refine skip_ (w1 := ?_) (by rfl) rfl ?_ ?_
        rotate_left
        ·go_simp
         rfl
        refine hK.out _ _ ⟨((cell_far (p := ⟨gb602, _, none⟩) NB633_602.out _).trans (((cell_far (p := ⟨gb602, _, none⟩) NB633_602.out _).trans (hHeld.1)))), ((cell_far (p := ⟨gb602, _, none⟩) NB633_602.out _).trans (((cell_far (p := ⟨gb602, _, none⟩) NB633_602.out _).trans (hHeld.2.1)))), ((cell_far (p := ⟨gb602, _, none⟩) NB633_602.out _).trans (((cell_far (p := ⟨gb602, _, none⟩) NB633_602.out _).trans (hHeld.2.2.1)))), ((cell_far (p := ⟨gb602, _, none⟩) NB648_602.out _).trans (((cell_far (p := ⟨gb602, _, none⟩) NB648_602.out _).trans (hHeld.2.2.2.1)))), ((cell_far (p := ⟨gb602, _, none⟩) NB648_602.out _).trans (((cell_far (p := ⟨gb602, _, none⟩) NB648_602.out _).trans (hHeld.2.2.2.2))))⟩ (fun hHeld => ?_)
        clear hK K
        refine pt_ 7 5 255 ?_
        refine done_ (done_of HT_.out (by kernel_rfl)) ?_
        try go_wp2
        refine bodyPost_ret (results_list (rs := [.cell 2 31, .tmp 3, .cell 4 28, .tmp 5]) rfl (by simp) (.cell gb601 31 #[.slice Ao39 t628.length co39, .int .i64 t631, .string t632] (0, 0) _ rfl (by exact kq_ BK601) Try.underlying31 rfl (by kernel_rfl) (.tmp (.cell gb602 28 #[.int .i64 t646, .string t647] (0, 0) _ rfl (by exact kq_ BK602) Try.underlying28 rfl (by kernel_rfl) (.tmp .nil))))) rfl ?_
        exact ⟨_, _, _, by first | rfl | (simp [errW_none, errW_some] <;> rfl) | (simp only [← hji12, ← hji495]; first | rfl | (simp [errW_none, errW_some] <;> rfl)) | (simp [*, errW_none, errW_some] <;> rfl), by (with_reducible repeat (first | apply Kd.R_alloc | apply Kd.R_drewN | apply Kd.R_drew)); exact Kd.R_mono (Kd.R_far (p := ⟨gb602, 1, none⟩) (Kd.R_far (p := ⟨gb602, 0, none⟩) (Kd.R_far (p := ⟨gb601, 2, none⟩) (Kd.R_far (p := ⟨gb601, 1, none⟩) (Kd.R_far (p := ⟨gb601, 0, none⟩) (Kd.R_types (Kd.R_types HO630.out BK601.out (by decide)) BK602.out (by decide)) (fun _ hk => hk.1.2) (.slice Ao39 t628.length co39)) (fun _ hk => hk.1.2) (.int .i64 t631)) (fun _ hk => hk.1.2) (.string t632)) (fun _ hk => hk.2) (.int .i64 t646)) (fun _ hk => hk.2) (.string t647)) (fun _ hk => hk.1.1.2), by (with_reducible repeat (first | apply Kd.R_alloc | apply Kd.R_drewN | apply Kd.R_drew)); exact Kd.R_mono (Kd.R_far (p := ⟨gb602, 1, none⟩) (Kd.R_far (p := ⟨gb602, 0, none⟩) (Kd.R_far (p := ⟨gb601, 2, none⟩) (Kd.R_far (p := ⟨gb601, 1, none⟩) (Kd.R_far (p := ⟨gb601, 0, none⟩) (Kd.R_mono (Kd.R_types HO716.out BK601.out (by decide)) (fun k_ hk => (⟨hk, hk.1.1⟩ : _ ∧ k_ ≠ gb602))) (fun _ hk => hk.1.2) (.slice Ao39 t628.length co39)) (fun _ hk => hk.1.2) (.int .i64 t631)) (fun _ hk => hk.1.2) (.string t632)) (fun _ hk => hk.2) (.int .i64 t646)) (fun _ hk => hk.2) (.string t647)) (fun _ hk => trivial), by (with_reducible repeat (first | apply Kd.R_alloc | apply Kd.R_drewN | apply Kd.R_drew)); exact Kd.R_mono (Kd.R_far (p := ⟨gb602, 1, none⟩) (Kd.R_far (p := ⟨gb602, 0, none⟩) (Kd.R_far (p := ⟨gb601, 2, none⟩) (Kd.R_far (p := ⟨gb601, 1, none⟩) (Kd.R_far (p := ⟨gb601, 0, none⟩) (Kd.R_types (Kd.R_types HO658.out BK601.out (by decide)) BK602.out (by decide)) (fun _ hk => hk.1.2) (.slice Ao39 t628.length co39)) (fun _ hk => hk.1.2) (.int .i64 t631)) (fun _ hk => hk.1.2) (.string t632)) (fun _ hk => hk.2) (.int .i64 t646)) (fun _ hk => hk.2) (.string t647)) (fun _ hk => hk.1.1.2), by repeat (first | (with_reducible first | exact HB.out | apply below_alloc | apply pw_below_drewN | apply below_drew1 | refine below_set ?_ (IsS111.ge HI606.out) | refine below_set ?_ GE601.out | refine below_set ?_ GE602.out | refine below_set ?_ GE633.out | refine below_set ?_ GE648.out) | exact HB.out)⟩
       ·replace H := ip_ H; obtain ⟨c547, H⟩ := H
        have LMc547 := Aside0.mk c547
        clear c547
        obtain ⟨y721, hy721⟩ : ∃ y_ : List (S28), y_ = (y714 ++ [(⟨t646, t647⟩ : S28)]) := ⟨_, rfl⟩
        replace H : (some (t628, t631, t632, y721, t646, t647, y717)) = some (r1, r2, r3, r4, r5, r6, r7) := yh_ hy721 H
        have Ny721 := Aside0.mk hy721
        clear hy721
        replace H := so7_ H; obtain ⟨rfl, rfl, rfl, rfl, rfl, rfl, rfl⟩ := H
        have hz582 := cz2_ BK648
        try go_wp2_with (first | ((with_reducible refine gate_builtin (b := .append) (xs := #[.tmp 79, .tmp 81]) rfl ?_); at_builtin; refine Kd.R_append k28 (w0 := w) w.heap.size rfl (.tmp 79) (.tmp 81) 35 28 (.agg #[(.int .i64 0), (.string ⟨#[]⟩)]) 24 rfl Try.underlying35 info28 rfl (by decide) (by omega) v635 t634 (⟨t646, t647⟩ : S28) [.int .i64 t646, .string t647] (fun k_ => k_ ≠ gb602 ∧ k_ ≠ gb648) (fun _ => False) rfl rfl ?aP (fun _ hk => hk.elim) ?aF ?aO ?aB ?aS ?aL ?_; (case aP => exact k28_mkM _ _ _ (⟨t646, t647⟩ : S28)); (case aB => exact (bs5_ HB (IsS111.ge HI606.out) GE601.out GE602.out GE633.out GE648.out)); (case aF => exact (fun k_ hk => ⟨Kd.freshB (kb_ BK602.out) k_ hk, Kd.freshB (kb_ BK648.out) k_ hk⟩)); (case aO => exact (kr_ (Kd.R_mono HO636.out (fun _ hk => ⟨hk.1.2, hk.2⟩)))); (case aS => exact (below_size (bs5_ HB (IsS111.ge HI606.out) GE601.out GE602.out GE633.out GE648.out))); (case aL => have := LMc494.out; omega); intro v715 w583 ho hb hg hat; rw [← Ny714.out] at ho; replace BK601 := kg_ BK601 HO636 hg; replace BK602 := Aside0.mk (blk_grown (kb_ BK602.out) hg (Kd.R_away HO636.out (fun _ hk => hk.1.2))); replace HI606 := Aside0.mk (IsS111.grown (in4x_ HI606 NB606_601 NB606_602 NB606_633 NB606_648) hg (IsS111.own_ne HI606.out HO636.out (by decide))); replace HO614 := Aside0.mk (Kd.R_over' (kr_ HO614.out) (Kd.R_typed (kr_ HO636.out)) (by decide) hg); replace HO630 := Aside0.mk (Kd.R_over' (kr_ HO630.out) (Kd.R_typed (kr_ HO636.out)) (by decide) hg); replace BK633 := kg_ BK633 HO636 hg; replace BK648 := Aside0.mk (blk_grown (kb_ BK648.out) hg (Kd.R_away HO636.out (fun _ hk => hk.2))); replace HO658 := Aside0.mk (Kd.R_over' (kr_ HO658.out) (Kd.R_typed (kr_ HO636.out)) (by decide) hg); replace HB := Aside0.mk hb; have HO716 := Aside0.mk ho; clear HO636; clear ho hb hg hat; obtain ⟨Ao584, co584, eo584⟩ := Kd.R_slice HO658.out; subst eo584; have p498 : 0 ≤ ((ji495) : Int) := of_decide_eq_true as_; have q498 : ((ji495) : Int) < ((y656.length : Int) : Int) := of_decide_eq_true as_; obtain ⟨go498, co498, eo498, gb498, gl498, cl498, HG498⟩ := Kd.R_form HO658.out (by omega); (first | cases eo498 | (injection eo498 with ea_ en_ ec_; (first | subst ea_ | (injection ea_ with ea_; subst ea_)); subst ec_; clear en_)); have GB498 := Aside0.mk gb498; have GG498 := Aside0.mk HG498; clear gb498 gl498 HG498; obtain ⟨hx498_0, hf498_0⟩ := Kd.R_celln (⟨#[]⟩ : ByteArray) HO658.out ((ji495) : Int) p498 q498; replace p498 := eq_true p498; replace q498 := eq_true q498; obtain ⟨hy585_, hz585_⟩ := Kd.R_celln (⟨#[]⟩ : ByteArray) HO658.out ((ji495) : Int) (of_decide_eq_true as_) (of_decide_eq_true as_); have HP585 := Kd.R_putg HO658.out ((ji495) : Int) (⟨#[98, 101, 110, 116]⟩ : ByteArray)) | ((with_reducible refine gate_store (t := 9) (p := 87) rfl ?_); refine store_event (t := 9) (p := 87) (v := ?vo_w586) (w1 := (w583.setCell ⟨go498, ((ji495) : Int).toNat, none⟩ (.string (⟨#[98, 101, 110, 116]⟩ : ByteArray)))) ?hg ?ho ?hn ?hr ?_; (case ho => rfl); (case hg => rfl); (case hn => rfl); (case hr => first | (go_simp; done) | (go_simp; rfl)); intro w586 hw; have hg : w583.grownBy w586 (some go498) := (by rw [hw]; exact HP585.2); have hp_ : Kd.R Kd.string 9 w586 w.heap.size (fun k_ => some k_ ≠ (.slice Ao30 y612.length co30 : Value).ownBlock ∧ some k_ ≠ (.slice Ao39 t628.length co39 : Value).ownBlock) (.slice (some ⟨go498, 0, none⟩) y656.length co584) y717 := (by rw [hw, Ny717.out]; exact HP585.1); clear HP585; replace BK601 := kg_ BK601 HO658 hg; replace BK602 := kg_ BK602 HO658 hg; replace HI606 := Aside0.mk (IsS111.grown (in4x_ HI606 NB606_601 NB606_602 NB606_633 NB606_648) hg (IsS111.own_ne HI606.out HO658.out (by decide))); replace HO614 := Aside0.mk (Kd.R_after (v := (.slice (some ⟨go498, 0, none⟩) y656.length co584)) (v1 := (.slice (some ⟨go498, 0, none⟩) y656.length co584)) (ok := (fun k_ => some k_ ≠ (.slice Ao39 t628.length co39 : Value).ownBlock)) (kr_ HO614.out) hg (.inl rfl)); replace HO630 := Aside0.mk (Kd.R_after (v := (.slice (some ⟨go498, 0, none⟩) y656.length co584)) (v1 := (.slice (some ⟨go498, 0, none⟩) y656.length co584)) (ok := (fun k_ => some k_ ≠ (.slice Ao30 y612.length co30 : Value).ownBlock)) (kr_ HO630.out) hg (.inl rfl)); replace BK633 := kg_ BK633 HO658 hg; replace BK648 := kg_ BK648 HO658 hg; replace HO716 := Aside0.mk (Kd.R_over' (v := (.slice (some ⟨go498, 0, none⟩) y656.length co584)) (kr_ HO716.out) (Kd.R_typed HO658.out) (by decide) hg); replace HO658 := Aside0.mk hp_; replace HB := Aside0.mk ((by rw [hw]; exact below_set (HB.out) GB498.out : Below w.heap.size w w586)); clear hg hw hp_) | ((with_reducible refine gk_ 75 ?_); refine gl_ 89 Try.func75 #[.pointer (some ⟨g606, 0, none⟩), .int .i64 3] ?_; (with_reducible refine (spec_l1Once.calls g606 t603 t660 t661 3 false t719 t720 w _ ?side1 ?side2 A499.out).mono ?_); (case side1 => exact in4x_ HI606 NB606_601 NB606_602 NB606_633 NB606_648); (case side2 => repeat (first | (with_reducible first | exact HB.out | apply below_alloc | apply pw_below_drewN | apply below_drew1 | refine below_set ?_ (IsS111.ge HI606.out) | refine below_set ?_ GE601.out | refine below_set ?_ GE602.out | refine below_set ?_ GE633.out | refine below_set ?_ GE648.out) | exact HB.out)); rintro e w587 ⟨rfl, hi, hb, hk⟩; refine ⟨_, rfl, ?_⟩; replace BK601 := Aside0.mk (KeepBut.blk hk (g' := gb601) (o := .cells #[.slice none 0 0, .int .i64 0, .string (⟨#[]⟩ : ByteArray)] 31 (0, 0)) (kb_ BK601.out) NB601_606.out (by simp)); replace BK602 := Aside0.mk (KeepBut.blk hk (g' := gb602) (o := .cells #[.int .i64 0, .string (⟨#[]⟩ : ByteArray)] 28 (0, 0)) (kb_ BK602.out) NB602_606.out (by simp)); replace HO614 := Aside0.mk (Kd.R_mono (Kd.R_keep (IsS111.apart (show IsS111 w _ g606 t603 t660 t661 from in4x_ HI606 NB606_601 NB606_602 NB606_633 NB606_648) (kr_ HO614.out) (by decide)) hk (fun _ h => h.2)) (fun _ h => h.1)); replace HO630 := Aside0.mk (Kd.R_mono (Kd.R_keep (IsS111.apart (show IsS111 w _ g606 t603 t660 t661 from in4x_ HI606 NB606_601 NB606_602 NB606_633 NB606_648) (kr_ HO630.out) (by decide)) hk (fun _ h => h.2)) (fun _ h => h.1)); replace BK633 := Aside0.mk (KeepBut.blk hk (g' := gb633) (o := .cells #[.slice Ao39 t628.length co39, .int .i64 t631, .string t632] 31 (0, 0)) (kb_ BK633.out) NB633_606.out (by simp)); replace BK648 := Aside0.mk (KeepBut.blk hk (g' := gb648) (o := .cells #[.int .i64 t646, .string t647] 28 (0, 0)) (kb_ BK648.out) NB648_606.out (by simp)); replace HO658 := Aside0.mk (Kd.R_mono (Kd.R_keep (IsS111.apart (show IsS111 w _ g606 t603 t660 t661 from in4x_ HI606 NB606_601 NB606_602 NB606_633 NB606_648) (kr_ HO658.out) (by decide)) hk (fun _ h => h.2)) (fun _ h => h.1)); replace HO716 := Aside0.mk (Kd.R_mono (Kd.R_keep (IsS111.apart (show IsS111 w _ g606 t603 t660 t661 from in4x_ HI606 NB606_601 NB606_602 NB606_633 NB606_648) (kr_ HO716.out) (by decide)) hk (fun _ h => h.2)) (fun _ h => h.1)); replace HB := Aside0.mk hb; replace HI606 := Aside0.mk hi; clear hb hk hi; have hz588 := cz2_ BK648) | ((with_reducible refine gate_builtin (b := .append) (xs := #[.tmp 91, .tmp 93]) rfl ?_); at_builtin; refine Kd.R_append k28 (w0 := w) w.heap.size rfl (.tmp 91) (.tmp 93) 35 28 (.agg #[(.int .i64 0), (.string ⟨#[]⟩)]) 24 rfl Try.underlying35 info28 rfl (by decide) (by omega) v715 y714 (⟨t646, t647⟩ : S28) [.int .i64 t646, .string t647] (fun k_ => k_ ≠ gb602 ∧ k_ ≠ gb648) (fun _ => False) rfl rfl ?aP (fun _ hk => hk.elim) ?aF ?aO ?aB ?aS ?aL ?_; (case aP => exact k28_mkM _ _ _ (⟨t646, t647⟩ : S28)); (case aB => exact (bs5_ HB (IsS111.ge HI606.out) GE601.out GE602.out GE633.out GE648.out)); (case aF => exact (fun k_ hk => ⟨Kd.freshB (kb_ BK602.out) k_ hk, Kd.freshB (kb_ BK648.out) k_ hk⟩)); (case aO => exact (kr_ HO716.out)); (case aS => exact (below_size (bs5_ HB (IsS111.ge HI606.out) GE601.out GE602.out GE633.out GE648.out))); (case aL => have := LMc547.out; omega); intro v722 w589 ho hb hg hat; rw [← Ny721.out] at ho; replace BK601 := kg_ BK601 HO716 hg; replace BK602 := Aside0.mk (blk_grown (kb_ BK602.out) hg (Kd.R_away HO716.out (fun _ hk => hk.1))); replace HI606 := Aside0.mk (IsS111.grown (in4x_ HI606 NB606_601 NB606_602 NB606_633 NB606_648) hg (IsS111.own_ne HI606.out HO716.out (by decide))); replace HO614 := Aside0.mk (Kd.R_over' (kr_ HO614.out) (Kd.R_typed (kr_ HO716.out)) (by decide) hg); replace HO630 := Aside0.mk (Kd.R_over' (kr_ HO630.out) (Kd.R_typed (kr_ HO716.out)) (by decide) hg); replace BK633 := kg_ BK633 HO716 hg; replace BK648 := Aside0.mk (blk_grown (kb_ BK648.out) hg (Kd.R_away HO716.out (fun _ hk => hk.2))); replace HO658 := Aside0.mk (Kd.R_over' (kr_ HO658.out) (Kd.R_typed (kr_ HO716.out)) (by decide) hg); replace HB := Aside0.mk hb; have HO723 := Aside0.mk ho; clear HO716; clear ho hb hg hat))
        replace HO614 := Aside0.mk (Kd.R_drew HO614.out)
        replace HO630 := Aside0.mk (Kd.R_drew HO630.out)
        replace HO658 := Aside0.mk (Kd.R_drew HO658.out)
        replace HO723 := Aside0.mk (Kd.R_drew HO723.out)
        replace BK601 := Aside0.mk (blk_drew BK601.out)
        replace BK602 := Aside0.mk (blk_drew BK602.out)
        replace BK633 := Aside0.mk (blk_drew BK633.out)
        replace BK648 := Aside0.mk (blk_drew BK648.out)
        replace HI606 := Aside0.mk (IsS111.drew HI606.out)
        replace HB := Aside0.mk (below_drew1 HB.out)
        refine start_ (n := 8) (S := fun w' => w'.cell? ⟨gb633, 0, none⟩ = some (.slice Ao39 t628.length co39) ∧ w'.cell? ⟨gb633, 1, none⟩ = some (.int .i64 t631) ∧ w'.cell? ⟨gb633, 2, none⟩ = some (.string t632) ∧ w'.cell? ⟨gb648, 0, none⟩ = some (.int .i64 t646) ∧ w'.cell? ⟨gb648, 1, none⟩ = some (.string t647)) (ds := []) (lz_ 8 0) (by kernel_rfl) rfl rfl ⟨bc0_ BK633.out, bc1_ BK633.out, bc2_ BK633.out, bc0_ BK648.out, bc1_ BK648.out⟩ (fun hHeld => ?_); refine with_tabW spec_DrawExtend.tab26 spec_DrawExtend.bits26 (fun HT_ HW_ => ?_)
        generalize w589.drew = w590 at HO614 HO630 HO658 HO723 BK601 BK602 BK633 BK648 HI606 HB hHeld ⊢
        refine pt_ 1 96 2 ?_
        refine pt_ 3 98 10 ?_
        refine tt_ 0 95 11 ?_
        refine tt_ 2 97 15 ?_
        refine one_ (i := 4) (N := none) (lz_ 8 31) rfl rfl (one_of HT_.out (by kernel_rfl)) (by decide) (fun K hK => ?_)
        have hs591 := bc0_ BK601.out
        have hfs591 := blk_frozen BK601.out 0
        have hns591_1 := NB602_601.out
        have hns591_2 := NB633_601.out
        have hns591_3 := NB648_601.out
        have hms591_1 := NB601_602.out
        have hms591_2 := NB601_633.out
        have hms591_3 := NB601_648.out
        have hs592 := bc1_ BK601.out
        have hfs592 := blk_frozen BK601.out 1
        have hns592_1 := NB602_601.out
        have hns592_2 := NB633_601.out
        have hns592_3 := NB648_601.out
        have hms592_1 := NB601_602.out
        have hms592_2 := NB601_633.out
        have hms592_3 := NB601_648.out
        have hs593 := bc2_ BK601.out
        have hfs593 := blk_frozen BK601.out 2
        have hns593_1 := NB602_601.out
        have hns593_2 := NB633_601.out
        have hns593_3 := NB648_601.out
        have hms593_1 := NB601_602.out
        have hms593_2 := NB601_633.out
        have hms593_3 := NB601_648.out
        refine skip_ (w1 := ?_) (by rfl) rfl ?_ ?_
        rotate_left
        ·go_simp
         rfl
        refine hK.out _ _ ⟨((cell_far (p := ⟨gb601, _, none⟩) NB633_601.out _).trans (((cell_far (p := ⟨gb601, _, none⟩) NB633_601.out _).trans (((cell_far (p := ⟨gb601, _, none⟩) NB633_601.out _).trans (hHeld.1)))))), ((cell_far (p := ⟨gb601, _, none⟩) NB633_601.out _).trans (((cell_far (p := ⟨gb601, _, none⟩) NB633_601.out _).trans (((cell_far (p := ⟨gb601, _, none⟩) NB633_601.out _).trans (hHeld.2.1)))))), ((cell_far (p := ⟨gb601, _, none⟩) NB633_601.out _).trans (((cell_far (p := ⟨gb601, _, none⟩) NB633_601.out _).trans (((cell_far (p := ⟨gb601, _, none⟩) NB633_601.out _).trans (hHeld.2.2.1)))))), ((cell_far (p := ⟨gb601, _, none⟩) NB648_601.out _).trans (((cell_far (p := ⟨gb601, _, none⟩) NB648_601.out _).trans (((cell_far (p := ⟨gb601, _, none⟩) NB648_601.out _).trans (hHeld.2.2.2.1)))))), ((cell_far (p := ⟨gb601, _, none⟩) NB648_601.out _).trans (((cell_far (p := ⟨gb601, _, none⟩) NB648_601.out _).trans (((cell_far (p := ⟨gb601, _, none⟩) NB648_601.out _).trans (hHeld.2.2.2.2))))))⟩ (fun hHeld => ?_)
        clear hK K
        refine pt_ 5 3 63 ?_
        refine one_ (i := 6) (N := none) (lz_ 8 127) rfl rfl (one_of HT_.out (by kernel_rfl)) (by decide) (fun K hK => ?_)
        have hs594 := bc0_ BK602.out
        have hfs594 := blk_frozen BK602.out 0
        have hns594_0 := NB601_602.out
        have hns594_2 := NB633_602.out
        have hns594_3 := NB648_602.out
        have hms594_0 := NB602_601.out
        have hms594_2 := NB602_633.out
        have hms594_3 := NB602_648.out
        have hs595 := bc1_ BK602.out
        have hfs595 := blk_frozen BK602.out 1
        have hns595_0 := NB601_602.out
        have hns595_2 := NB633_602.out
        have hns595_3 := NB648_602.out
        have hms595_0 := NB602_601.out
        have hms595_2 := NB602_633.out
        have hms595_3 := NB602_648.out
        refine skip_ (w1 := ?_) (by rfl) rfl ?_ ?_
        rotate_left
        ·go_simp
         rfl
        refine hK.out _ _ ⟨((cell_far (p := ⟨gb602, _, none⟩) NB633_602.out _).trans (((cell_far (p := ⟨gb602, _, none⟩) NB633_602.out _).trans (hHeld.1)))), ((cell_far (p := ⟨gb602, _, none⟩) NB633_602.out _).trans (((cell_far (p := ⟨gb602, _, none⟩) NB633_602.out _).trans (hHeld.2.1)))), ((cell_far (p := ⟨gb602, _, none⟩) NB633_602.out _).trans (((cell_far (p := ⟨gb602, _, none⟩) NB633_602.out _).trans (hHeld.2.2.1)))), ((cell_far (p := ⟨gb602, _, none⟩) NB648_602.out _).trans (((cell_far (p := ⟨gb602, _, none⟩) NB648_602.out _).trans (hHeld.2.2.2.1)))), ((cell_far (p := ⟨gb602, _, none⟩) NB648_602.out _).trans (((cell_far (p := ⟨gb602, _, none⟩) NB648_602.out _).trans (hHeld.2.2.2.2))))⟩ (fun hHeld => ?_)
        clear hK K
        refine pt_ 7 5 255 ?_
        refine done_ (done_of HT_.out (by kernel_rfl)) ?_
        try go_wp2
        refine bodyPost_ret (results_list (rs := [.cell 2 31, .tmp 3, .cell 4 28, .tmp 5]) rfl (by simp) (.cell gb601 31 #[.slice Ao39 t628.length co39, .int .i64 t631, .string t632] (0, 0) _ rfl (by exact kq_ BK601) Try.underlying31 rfl (by kernel_rfl) (.tmp (.cell gb602 28 #[.int .i64 t646, .string t647] (0, 0) _ rfl (by exact kq_ BK602) Try.underlying28 rfl (by kernel_rfl) (.tmp .nil))))) rfl ?_
        exact ⟨_, _, _, by first | rfl | (simp [errW_none, errW_some] <;> rfl) | (simp only [← hji12, ← hji495]; first | rfl | (simp [errW_none, errW_some] <;> rfl)) | (simp [*, errW_none, errW_some] <;> rfl), by (with_reducible repeat (first | apply Kd.R_alloc | apply Kd.R_drewN | apply Kd.R_drew)); exact Kd.R_mono (Kd.R_far (p := ⟨gb602, 1, none⟩) (Kd.R_far (p := ⟨gb602, 0, none⟩) (Kd.R_far (p := ⟨gb601, 2, none⟩) (Kd.R_far (p := ⟨gb601, 1, none⟩) (Kd.R_far (p := ⟨gb601, 0, none⟩) (Kd.R_types (Kd.R_types HO630.out BK601.out (by decide)) BK602.out (by decide)) (fun _ hk => hk.1.2) (.slice Ao39 t628.length co39)) (fun _ hk => hk.1.2) (.int .i64 t631)) (fun _ hk => hk.1.2) (.string t632)) (fun _ hk => hk.2) (.int .i64 t646)) (fun _ hk => hk.2) (.string t647)) (fun _ hk => hk.1.1.2), by (with_reducible repeat (first | apply Kd.R_alloc | apply Kd.R_drewN | apply Kd.R_drew)); exact Kd.R_mono (Kd.R_far (p := ⟨gb602, 1, none⟩) (Kd.R_far (p := ⟨gb602, 0, none⟩) (Kd.R_far (p := ⟨gb601, 2, none⟩) (Kd.R_far (p := ⟨gb601, 1, none⟩) (Kd.R_far (p := ⟨gb601, 0, none⟩) (Kd.R_mono (Kd.R_types HO723.out BK601.out (by decide)) (fun k_ hk => (⟨hk, hk.1.1⟩ : _ ∧ k_ ≠ gb602))) (fun _ hk => hk.1.2) (.slice Ao39 t628.length co39)) (fun _ hk => hk.1.2) (.int .i64 t631)) (fun _ hk => hk.1.2) (.string t632)) (fun _ hk => hk.2) (.int .i64 t646)) (fun _ hk => hk.2) (.string t647)) (fun _ hk => trivial), by (with_reducible repeat (first | apply Kd.R_alloc | apply Kd.R_drewN | apply Kd.R_drew)); exact Kd.R_mono (Kd.R_far (p := ⟨gb602, 1, none⟩) (Kd.R_far (p := ⟨gb602, 0, none⟩) (Kd.R_far (p := ⟨gb601, 2, none⟩) (Kd.R_far (p := ⟨gb601, 1, none⟩) (Kd.R_far (p := ⟨gb601, 0, none⟩) (Kd.R_types (Kd.R_types HO658.out BK601.out (by decide)) BK602.out (by decide)) (fun _ hk => hk.1.2) (.slice Ao39 t628.length co39)) (fun _ hk => hk.1.2) (.int .i64 t631)) (fun _ hk => hk.1.2) (.string t632)) (fun _ hk => hk.2) (.int .i64 t646)) (fun _ hk => hk.2) (.string t647)) (fun _ hk => hk.1.1.2), by repeat (first | (with_reducible first | exact HB.out | apply below_alloc | apply pw_below_drewN | apply below_drew1 | refine below_set ?_ (IsS111.ge HI606.out) | refine below_set ?_ GE601.out | refine below_set ?_ GE602.out | refine below_set ?_ GE633.out | refine below_set ?_ GE648.out) | exact HB.out)⟩
      ·have c493b0 : (t659 == 5) = false := beq_eq_false_iff_ne.mpr c493
       have c493b1 : (t659 != 5) = true := bne_iff_ne.mpr c493
       replace H := bi_ H; obtain ⟨⟨t724, t725, t726⟩, A596, H⟩ := H
       dsimp only at H
       replace H := itb_ H; obtain ⟨rfl, H⟩ | ⟨rfl, H⟩ := H
       ·replace H := so7_ H; obtain ⟨rfl, rfl, rfl, rfl, rfl, rfl, rfl⟩ := H
        try go_wp2_with (first | ((with_reducible refine gk_ 75 ?_); refine gl_ 89 Try.func75 #[.pointer (some ⟨g606, 0, none⟩), .int .i64 3] ?_; (with_reducible refine (spec_l1Once.calls g606 t603 t660 t661 3 true t725 t726 w _ ?side1 ?side2 A596.out).mono ?_); (case side1 => exact in4x_ HI606 NB606_601 NB606_602 NB606_633 NB606_648); (case side2 => repeat (first | (with_reducible first | exact HB.out | apply below_alloc | apply pw_below_drewN | apply below_drew1 | refine below_set ?_ (IsS111.ge HI606.out) | refine below_set ?_ GE601.out | refine below_set ?_ GE602.out | refine below_set ?_ GE633.out | refine below_set ?_ GE648.out) | exact HB.out)); rintro e w632 ⟨rfl, hi, hb, hk⟩; refine ⟨_, rfl, ?_⟩; replace BK601 := Aside0.mk (KeepBut.blk hk (g' := gb601) (o := .cells #[.slice none 0 0, .int .i64 0, .string (⟨#[]⟩ : ByteArray)] 31 (0, 0)) (kb_ BK601.out) NB601_606.out (by simp)); replace BK602 := Aside0.mk (KeepBut.blk hk (g' := gb602) (o := .cells #[.int .i64 0, .string (⟨#[]⟩ : ByteArray)] 28 (0, 0)) (kb_ BK602.out) NB602_606.out (by simp)); replace HO614 := Aside0.mk (Kd.R_mono (Kd.R_keep (IsS111.apart (show IsS111 w _ g606 t603 t660 t661 from in4x_ HI606 NB606_601 NB606_602 NB606_633 NB606_648) (kr_ HO614.out) (by decide)) hk (fun _ h => h.2)) (fun _ h => h.1)); replace HO630 := Aside0.mk (Kd.R_mono (Kd.R_keep (IsS111.apart (show IsS111 w _ g606 t603 t660 t661 from in4x_ HI606 NB606_601 NB606_602 NB606_633 NB606_648) (kr_ HO630.out) (by decide)) hk (fun _ h => h.2)) (fun _ h => h.1)); replace BK633 := Aside0.mk (KeepBut.blk hk (g' := gb633) (o := .cells #[.slice Ao39 t628.length co39, .int .i64 t631, .string t632] 31 (0, 0)) (kb_ BK633.out) NB633_606.out (by simp)); replace HO636 := Aside0.mk (Kd.R_mono (Kd.R_keep (IsS111.apart (show IsS111 w _ g606 t603 t660 t661 from in4x_ HI606 NB606_601 NB606_602 NB606_633 NB606_648) (kr_ HO636.out) (by decide)) hk (fun _ h => h.2)) (fun _ h => h.1)); replace BK648 := Aside0.mk (KeepBut.blk hk (g' := gb648) (o := .cells #[.int .i64 t646, .string t647] 28 (0, 0)) (kb_ BK648.out) NB648_606.out (by simp)); replace HO658 := Aside0.mk (Kd.R_mono (Kd.R_keep (IsS111.apart (show IsS111 w _ g606 t603 t660 t661 from in4x_ HI606 NB606_601 NB606_602 NB606_633 NB606_648) (kr_ HO658.out) (by decide)) hk (fun _ h => h.2)) (fun _ h => h.1)); replace HB := Aside0.mk hb; replace HI606 := Aside0.mk hi; clear hb hk hi))
        replace HO614 := Aside0.mk (Kd.R_drew HO614.out)
        replace HO630 := Aside0.mk (Kd.R_drew HO630.out)
        replace HO636 := Aside0.mk (Kd.R_drew HO636.out)
        replace HO658 := Aside0.mk (Kd.R_drew HO658.out)
        replace BK601 := Aside0.mk (blk_drew BK601.out)
        replace BK602 := Aside0.mk (blk_drew BK602.out)
        replace BK633 := Aside0.mk (blk_drew BK633.out)
        replace BK648 := Aside0.mk (blk_drew BK648.out)
        replace HI606 := Aside0.mk (IsS111.drew HI606.out)
        replace HB := Aside0.mk (below_drew1 HB.out)
        refine start_ (n := 8) (S := fun w' => w'.cell? ⟨gb633, 0, none⟩ = some (.slice Ao39 t628.length co39) ∧ w'.cell? ⟨gb633, 1, none⟩ = some (.int .i64 t631) ∧ w'.cell? ⟨gb633, 2, none⟩ = some (.string t632) ∧ w'.cell? ⟨gb648, 0, none⟩ = some (.int .i64 t646) ∧ w'.cell? ⟨gb648, 1, none⟩ = some (.string t647)) (ds := []) (lz_ 8 0) (by kernel_rfl) rfl rfl ⟨bc0_ BK633.out, bc1_ BK633.out, bc2_ BK633.out, bc0_ BK648.out, bc1_ BK648.out⟩ (fun hHeld => ?_); refine with_tabW spec_DrawExtend.tab26 spec_DrawExtend.bits26 (fun HT_ HW_ => ?_)
        generalize w632.drew = w633 at HO614 HO630 HO636 HO658 BK601 BK602 BK633 BK648 HI606 HB hHeld ⊢
        refine pt_ 1 96 2 ?_
        refine pt_ 3 98 10 ?_
        refine tt_ 0 95 11 ?_
        refine tt_ 2 97 15 ?_
        refine one_ (i := 4) (N := none) (lz_ 8 31) rfl rfl (one_of HT_.out (by kernel_rfl)) (by decide) (fun K hK => ?_)
        have hs634 := bc0_ BK601.out
        have hfs634 := blk_frozen BK601.out 0
        have hns634_1 := NB602_601.out
        have hns634_2 := NB633_601.out
        have hns634_3 := NB648_601.out
        have hms634_1 := NB601_602.out
        have hms634_2 := NB601_633.out
        have hms634_3 := NB601_648.out
        have hs635 := bc1_ BK601.out
        have hfs635 := blk_frozen BK601.out 1
        have hns635_1 := NB602_601.out
        have hns635_2 := NB633_601.out
        have hns635_3 := NB648_601.out
        have hms635_1 := NB601_602.out
        have hms635_2 := NB601_633.out
        have hms635_3 := NB601_648.out
        have hs636 := bc2_ BK601.out
        have hfs636 := blk_frozen BK601.out 2
        have hns636_1 := NB602_601.out
        have hns636_2 := NB633_601.out
        have hns636_3 := NB648_601.out
        have hms636_1 := NB601_602.out
        have hms636_2 := NB601_633.out
        have hms636_3 := NB601_648.out
        refine skip_ (w1 := ?_) (by rfl) rfl ?_ ?_
        rotate_left
        ·go_simp
         rfl
        refine hK.out _ _ ⟨((cell_far (p := ⟨gb601, _, none⟩) NB633_601.out _).trans (((cell_far (p := ⟨gb601, _, none⟩) NB633_601.out _).trans (((cell_far (p := ⟨gb601, _, none⟩) NB633_601.out _).trans (hHeld.1)))))), ((cell_far (p := ⟨gb601, _, none⟩) NB633_601.out _).trans (((cell_far (p := ⟨gb601, _, none⟩) NB633_601.out _).trans (((cell_far (p := ⟨gb601, _, none⟩) NB633_601.out _).trans (hHeld.2.1)))))), ((cell_far (p := ⟨gb601, _, none⟩) NB633_601.out _).trans (((cell_far (p := ⟨gb601, _, none⟩) NB633_601.out _).trans (((cell_far (p := ⟨gb601, _, none⟩) NB633_601.out _).trans (hHeld.2.2.1)))))), ((cell_far (p := ⟨gb601, _, none⟩) NB648_601.out _).trans (((cell_far (p := ⟨gb601, _, none⟩) NB648_601.out _).trans (((cell_far (p := ⟨gb601, _, none⟩) NB648_601.out _).trans (hHeld.2.2.2.1)))))), ((cell_far (p := ⟨gb601, _, none⟩) NB648_601.out _).trans (((cell_far (p := ⟨gb601, _, none⟩) NB648_601.out _).trans (((cell_far (p := ⟨gb601, _, none⟩) NB648_601.out _).trans (hHeld.2.2.2.2))))))⟩ (fun hHeld => ?_)
        clear hK K
        refine pt_ 5 3 63 ?_
        refine one_ (i := 6) (N := none) (lz_ 8 127) rfl rfl (one_of HT_.out (by kernel_rfl)) (by decide) (fun K hK => ?_)
        have hs637 := bc0_ BK602.out
        have hfs637 := blk_frozen BK602.out 0
        have hns637_0 := NB601_602.out
        have hns637_2 := NB633_602.out
        have hns637_3 := NB648_602.out
        have hms637_0 := NB602_601.out
        have hms637_2 := NB602_633.out
        have hms637_3 := NB602_648.out
        have hs638 := bc1_ BK602.out
        have hfs638 := blk_frozen BK602.out 1
        have hns638_0 := NB601_602.out
        have hns638_2 := NB633_602.out
        have hns638_3 := NB648_602.out
        have hms638_0 := NB602_601.out
        have hms638_2 := NB602_633.out
        have hms638_3 := NB602_648.out
        refine skip_ (w1 := ?_) (by rfl) rfl ?_ ?_
        rotate_left
        ·go_simp
         rfl
        refine hK.out _ _ ⟨((cell_far (p := ⟨gb602, _, none⟩) NB633_602.out _).trans (((cell_far (p := ⟨gb602, _, none⟩) NB633_602.out _).trans (hHeld.1)))), ((cell_far (p := ⟨gb602, _, none⟩) NB633_602.out _).trans (((cell_far (p := ⟨gb602, _, none⟩) NB633_602.out _).trans (hHeld.2.1)))), ((cell_far (p := ⟨gb602, _, none⟩) NB633_602.out _).trans (((cell_far (p := ⟨gb602, _, none⟩) NB633_602.out _).trans (hHeld.2.2.1)))), ((cell_far (p := ⟨gb602, _, none⟩) NB648_602.out _).trans (((cell_far (p := ⟨gb602, _, none⟩) NB648_602.out _).trans (hHeld.2.2.2.1)))), ((cell_far (p := ⟨gb602, _, none⟩) NB648_602.out _).trans (((cell_far (p := ⟨gb602, _, none⟩) NB648_602.out _).trans (hHeld.2.2.2.2))))⟩ (fun hHeld => ?_)
        clear hK K
        refine pt_ 7 5 255 ?_
        refine done_ (done_of HT_.out (by kernel_rfl)) ?_
        try go_wp2
        refine bodyPost_ret (results_list (rs := [.cell 2 31, .tmp 3, .cell 4 28, .tmp 5]) rfl (by simp) (.cell gb601 31 #[.slice Ao39 t628.length co39, .int .i64 t631, .string t632] (0, 0) _ rfl (by exact kq_ BK601) Try.underlying31 rfl (by kernel_rfl) (.tmp (.cell gb602 28 #[.int .i64 t646, .string t647] (0, 0) _ rfl (by exact kq_ BK602) Try.underlying28 rfl (by kernel_rfl) (.tmp .nil))))) rfl ?_
        exact ⟨_, _, _, by first | rfl | (simp [errW_none, errW_some] <;> rfl) | (simp only [← hji12]; first | rfl | (simp [errW_none, errW_some] <;> rfl)) | (simp [*, errW_none, errW_some] <;> rfl), by (with_reducible repeat (first | apply Kd.R_alloc | apply Kd.R_drewN | apply Kd.R_drew)); exact Kd.R_mono (Kd.R_far (p := ⟨gb602, 1, none⟩) (Kd.R_far (p := ⟨gb602, 0, none⟩) (Kd.R_far (p := ⟨gb601, 2, none⟩) (Kd.R_far (p := ⟨gb601, 1, none⟩) (Kd.R_far (p := ⟨gb601, 0, none⟩) (Kd.R_types (Kd.R_types HO630.out BK601.out (by decide)) BK602.out (by decide)) (fun _ hk => hk.1.2) (.slice Ao39 t628.length co39)) (fun _ hk => hk.1.2) (.int .i64 t631)) (fun _ hk => hk.1.2) (.string t632)) (fun _ hk => hk.2) (.int .i64 t646)) (fun _ hk => hk.2) (.string t647)) (fun _ hk => hk.1.1.2), by (with_reducible repeat (first | apply Kd.R_alloc | apply Kd.R_drewN | apply Kd.R_drew)); exact Kd.R_mono (Kd.R_far (p := ⟨gb602, 1, none⟩) (Kd.R_far (p := ⟨gb602, 0, none⟩) (Kd.R_far (p := ⟨gb601, 2, none⟩) (Kd.R_far (p := ⟨gb601, 1, none⟩) (Kd.R_far (p := ⟨gb601, 0, none⟩) (Kd.R_mono (Kd.R_types HO636.out BK601.out (by decide)) (fun k_ hk => (⟨hk, hk.1.1.2⟩ : _ ∧ k_ ≠ gb602))) (fun _ hk => hk.1.2) (.slice Ao39 t628.length co39)) (fun _ hk => hk.1.2) (.int .i64 t631)) (fun _ hk => hk.1.2) (.string t632)) (fun _ hk => hk.2) (.int .i64 t646)) (fun _ hk => hk.2) (.string t647)) (fun _ hk => trivial), by (with_reducible repeat (first | apply Kd.R_alloc | apply Kd.R_drewN | apply Kd.R_drew)); exact Kd.R_mono (Kd.R_far (p := ⟨gb602, 1, none⟩) (Kd.R_far (p := ⟨gb602, 0, none⟩) (Kd.R_far (p := ⟨gb601, 2, none⟩) (Kd.R_far (p := ⟨gb601, 1, none⟩) (Kd.R_far (p := ⟨gb601, 0, none⟩) (Kd.R_types (Kd.R_types HO658.out BK601.out (by decide)) BK602.out (by decide)) (fun _ hk => hk.1.2) (.slice Ao39 t628.length co39)) (fun _ hk => hk.1.2) (.int .i64 t631)) (fun _ hk => hk.1.2) (.string t632)) (fun _ hk => hk.2) (.int .i64 t646)) (fun _ hk => hk.2) (.string t647)) (fun _ hk => hk.1.1.2), by repeat (first | (with_reducible first | exact HB.out | apply below_alloc | apply pw_below_drewN | apply below_drew1 | refine below_set ?_ (IsS111.ge HI606.out) | refine below_set ?_ GE601.out | refine below_set ?_ GE602.out | refine below_set ?_ GE633.out | refine below_set ?_ GE648.out) | exact HB.out)⟩
       ·replace H := ip_ H; obtain ⟨c639, H⟩ := H
        have LMc639 := Aside0.mk c639
        clear c639
        obtain ⟨y727, hy727⟩ : ∃ y_ : List (S28), y_ = (t634 ++ [(⟨t646, t647⟩ : S28)]) := ⟨_, rfl⟩
        replace H : (some (t628, t631, t632, y727, t646, t647, y656)) = some (r1, r2, r3, r4, r5, r6, r7) := yh_ hy727 H
        have Ny727 := Aside0.mk hy727
        clear hy727
        replace H := so7_ H; obtain ⟨rfl, rfl, rfl, rfl, rfl, rfl, rfl⟩ := H
        try go_wp2_with (first | ((with_reducible refine gk_ 75 ?_); refine gl_ 89 Try.func75 #[.pointer (some ⟨g606, 0, none⟩), .int .i64 3] ?_; (with_reducible refine (spec_l1Once.calls g606 t603 t660 t661 3 false t725 t726 w _ ?side1 ?side2 A596.out).mono ?_); (case side1 => exact in4x_ HI606 NB606_601 NB606_602 NB606_633 NB606_648); (case side2 => repeat (first | (with_reducible first | exact HB.out | apply below_alloc | apply pw_below_drewN | apply below_drew1 | refine below_set ?_ (IsS111.ge HI606.out) | refine below_set ?_ GE601.out | refine below_set ?_ GE602.out | refine below_set ?_ GE633.out | refine below_set ?_ GE648.out) | exact HB.out)); rintro e w674 ⟨rfl, hi, hb, hk⟩; refine ⟨_, rfl, ?_⟩; replace BK601 := Aside0.mk (KeepBut.blk hk (g' := gb601) (o := .cells #[.slice none 0 0, .int .i64 0, .string (⟨#[]⟩ : ByteArray)] 31 (0, 0)) (kb_ BK601.out) NB601_606.out (by simp)); replace BK602 := Aside0.mk (KeepBut.blk hk (g' := gb602) (o := .cells #[.int .i64 0, .string (⟨#[]⟩ : ByteArray)] 28 (0, 0)) (kb_ BK602.out) NB602_606.out (by simp)); replace HO614 := Aside0.mk (Kd.R_mono (Kd.R_keep (IsS111.apart (show IsS111 w _ g606 t603 t660 t661 from in4x_ HI606 NB606_601 NB606_602 NB606_633 NB606_648) (kr_ HO614.out) (by decide)) hk (fun _ h => h.2)) (fun _ h => h.1)); replace HO630 := Aside0.mk (Kd.R_mono (Kd.R_keep (IsS111.apart (show IsS111 w _ g606 t603 t660 t661 from in4x_ HI606 NB606_601 NB606_602 NB606_633 NB606_648) (kr_ HO630.out) (by decide)) hk (fun _ h => h.2)) (fun _ h => h.1)); replace BK633 := Aside0.mk (KeepBut.blk hk (g' := gb633) (o := .cells #[.slice Ao39 t628.length co39, .int .i64 t631, .string t632] 31 (0, 0)) (kb_ BK633.out) NB633_606.out (by simp)); replace HO636 := Aside0.mk (Kd.R_mono (Kd.R_keep (IsS111.apart (show IsS111 w _ g606 t603 t660 t661 from in4x_ HI606 NB606_601 NB606_602 NB606_633 NB606_648) (kr_ HO636.out) (by decide)) hk (fun _ h => h.2)) (fun _ h => h.1)); replace BK648 := Aside0.mk (KeepBut.blk hk (g' := gb648) (o := .cells #[.int .i64 t646, .string t647] 28 (0, 0)) (kb_ BK648.out) NB648_606.out (by simp)); replace HO658 := Aside0.mk (Kd.R_mono (Kd.R_keep (IsS111.apart (show IsS111 w _ g606 t603 t660 t661 from in4x_ HI606 NB606_601 NB606_602 NB606_633 NB606_648) (kr_ HO658.out) (by decide)) hk (fun _ h => h.2)) (fun _ h => h.1)); replace HB := Aside0.mk hb; replace HI606 := Aside0.mk hi; clear hb hk hi; have hz675 := cz2_ BK648) | ((with_reducible refine gate_builtin (b := .append) (xs := #[.tmp 91, .tmp 93]) rfl ?_); at_builtin; refine Kd.R_append k28 (w0 := w) w.heap.size rfl (.tmp 91) (.tmp 93) 35 28 (.agg #[(.int .i64 0), (.string ⟨#[]⟩)]) 24 rfl Try.underlying35 info28 rfl (by decide) (by omega) v635 t634 (⟨t646, t647⟩ : S28) [.int .i64 t646, .string t647] (fun k_ => k_ ≠ gb602 ∧ k_ ≠ gb648) (fun _ => False) rfl rfl ?aP (fun _ hk => hk.elim) ?aF ?aO ?aB ?aS ?aL ?_; (case aP => exact k28_mkM _ _ _ (⟨t646, t647⟩ : S28)); (case aB => exact (bs5_ HB (IsS111.ge HI606.out) GE601.out GE602.out GE633.out GE648.out)); (case aF => exact (fun k_ hk => ⟨Kd.freshB (kb_ BK602.out) k_ hk, Kd.freshB (kb_ BK648.out) k_ hk⟩)); (case aO => exact (kr_ (Kd.R_mono HO636.out (fun _ hk => ⟨hk.1.2, hk.2⟩)))); (case aS => exact (below_size (bs5_ HB (IsS111.ge HI606.out) GE601.out GE602.out GE633.out GE648.out))); (case aL => have := LMc639.out; omega); intro v728 w676 ho hb hg hat; rw [← Ny727.out] at ho; replace BK601 := kg_ BK601 HO636 hg; replace BK602 := Aside0.mk (blk_grown (kb_ BK602.out) hg (Kd.R_away HO636.out (fun _ hk => hk.1.2))); replace HI606 := Aside0.mk (IsS111.grown (in4x_ HI606 NB606_601 NB606_602 NB606_633 NB606_648) hg (IsS111.own_ne HI606.out HO636.out (by decide))); replace HO614 := Aside0.mk (Kd.R_over' (kr_ HO614.out) (Kd.R_typed (kr_ HO636.out)) (by decide) hg); replace HO630 := Aside0.mk (Kd.R_over' (kr_ HO630.out) (Kd.R_typed (kr_ HO636.out)) (by decide) hg); replace BK633 := kg_ BK633 HO636 hg; replace BK648 := Aside0.mk (blk_grown (kb_ BK648.out) hg (Kd.R_away HO636.out (fun _ hk => hk.2))); replace HO658 := Aside0.mk (Kd.R_over' (kr_ HO658.out) (Kd.R_typed (kr_ HO636.out)) (by decide) hg); replace HB := Aside0.mk hb; have HO729 := Aside0.mk ho; clear HO636; clear ho hb hg hat))
        replace HO614 := Aside0.mk (Kd.R_drew HO614.out)
        replace HO630 := Aside0.mk (Kd.R_drew HO630.out)
        replace HO658 := Aside0.mk (Kd.R_drew HO658.out)
        replace HO729 := Aside0.mk (Kd.R_drew HO729.out)
        replace BK601 := Aside0.mk (blk_drew BK601.out)
        replace BK602 := Aside0.mk (blk_drew BK602.out)
        replace BK633 := Aside0.mk (blk_drew BK633.out)
        replace BK648 := Aside0.mk (blk_drew BK648.out)
        replace HI606 := Aside0.mk (IsS111.drew HI606.out)
        replace HB := Aside0.mk (below_drew1 HB.out)
        refine start_ (n := 8) (S := fun w' => w'.cell? ⟨gb633, 0, none⟩ = some (.slice Ao39 t628.length co39) ∧ w'.cell? ⟨gb633, 1, none⟩ = some (.int .i64 t631) ∧ w'.cell? ⟨gb633, 2, none⟩ = some (.string t632) ∧ w'.cell? ⟨gb648, 0, none⟩ = some (.int .i64 t646) ∧ w'.cell? ⟨gb648, 1, none⟩ = some (.string t647)) (ds := []) (lz_ 8 0) (by kernel_rfl) rfl rfl ⟨bc0_ BK633.out, bc1_ BK633.out, bc2_ BK633.out, bc0_ BK648.out, bc1_ BK648.out⟩ (fun hHeld => ?_); refine with_tabW spec_DrawExtend.tab26 spec_DrawExtend.bits26 (fun HT_ HW_ => ?_)
        generalize w676.drew = w677 at HO614 HO630 HO658 HO729 BK601 BK602 BK633 BK648 HI606 HB hHeld ⊢
        refine pt_ 1 96 2 ?_
        refine pt_ 3 98 10 ?_
        refine tt_ 0 95 11 ?_
        refine tt_ 2 97 15 ?_
        refine one_ (i := 4) (N := none) (lz_ 8 31) rfl rfl (one_of HT_.out (by kernel_rfl)) (by decide) (fun K hK => ?_)
        have hs678 := bc0_ BK601.out
        have hfs678 := blk_frozen BK601.out 0
        have hns678_1 := NB602_601.out
        have hns678_2 := NB633_601.out
        have hns678_3 := NB648_601.out
        have hms678_1 := NB601_602.out
        have hms678_2 := NB601_633.out
        have hms678_3 := NB601_648.out
        have hs679 := bc1_ BK601.out
        have hfs679 := blk_frozen BK601.out 1
        have hns679_1 := NB602_601.out
        have hns679_2 := NB633_601.out
        have hns679_3 := NB648_601.out
        have hms679_1 := NB601_602.out
        have hms679_2 := NB601_633.out
        have hms679_3 := NB601_648.out
        have hs680 := bc2_ BK601.out
        have hfs680 := blk_frozen BK601.out 2
        have hns680_1 := NB602_601.out
        have hns680_2 := NB633_601.out
        have hns680_3 := NB648_601.out
        have hms680_1 := NB601_602.out
        have hms680_2 := NB601_633.out
        have hms680_3 := NB601_648.out
        refine skip_ (w1 := ?_) (by rfl) rfl ?_ ?_
        rotate_left
        ·go_simp
         rfl
        refine hK.out _ _ ⟨((cell_far (p := ⟨gb601, _, none⟩) NB633_601.out _).trans (((cell_far (p := ⟨gb601, _, none⟩) NB633_601.out _).trans (((cell_far (p := ⟨gb601, _, none⟩) NB633_601.out _).trans (hHeld.1)))))), ((cell_far (p := ⟨gb601, _, none⟩) NB633_601.out _).trans (((cell_far (p := ⟨gb601, _, none⟩) NB633_601.out _).trans (((cell_far (p := ⟨gb601, _, none⟩) NB633_601.out _).trans (hHeld.2.1)))))), ((cell_far (p := ⟨gb601, _, none⟩) NB633_601.out _).trans (((cell_far (p := ⟨gb601, _, none⟩) NB633_601.out _).trans (((cell_far (p := ⟨gb601, _, none⟩) NB633_601.out _).trans (hHeld.2.2.1)))))), ((cell_far (p := ⟨gb601, _, none⟩) NB648_601.out _).trans (((cell_far (p := ⟨gb601, _, none⟩) NB648_601.out _).trans (((cell_far (p := ⟨gb601, _, none⟩) NB648_601.out _).trans (hHeld.2.2.2.1)))))), ((cell_far (p := ⟨gb601, _, none⟩) NB648_601.out _).trans (((cell_far (p := ⟨gb601, _, none⟩) NB648_601.out _).trans (((cell_far (p := ⟨gb601, _, none⟩) NB648_601.out _).trans (hHeld.2.2.2.2))))))⟩ (fun hHeld => ?_)
        clear hK K
        refine pt_ 5 3 63 ?_
        refine one_ (i := 6) (N := none) (lz_ 8 127) rfl rfl (one_of HT_.out (by kernel_rfl)) (by decide) (fun K hK => ?_)
        have hs681 := bc0_ BK602.out
        have hfs681 := blk_frozen BK602.out 0
        have hns681_0 := NB601_602.out
        have hns681_2 := NB633_602.out
        have hns681_3 := NB648_602.out
        have hms681_0 := NB602_601.out
        have hms681_2 := NB602_633.out
        have hms681_3 := NB602_648.out
        have hs682 := bc1_ BK602.out
        have hfs682 := blk_frozen BK602.out 1
        have hns682_0 := NB601_602.out
        have hns682_2 := NB633_602.out
        have hns682_3 := NB648_602.out
        have hms682_0 := NB602_601.out
        have hms682_2 := NB602_633.out
        have hms682_3 := NB602_648.out
        refine skip_ (w1 := ?_) (by rfl) rfl ?_ ?_
        rotate_left
        ·go_simp
         rfl
        refine hK.out _ _ ⟨((cell_far (p := ⟨gb602, _, none⟩) NB633_602.out _).trans (((cell_far (p := ⟨gb602, _, none⟩) NB633_602.out _).trans (hHeld.1)))), ((cell_far (p := ⟨gb602, _, none⟩) NB633_602.out _).trans (((cell_far (p := ⟨gb602, _, none⟩) NB633_602.out _).trans (hHeld.2.1)))), ((cell_far (p := ⟨gb602, _, none⟩) NB633_602.out _).trans (((cell_far (p := ⟨gb602, _, none⟩) NB633_602.out _).trans (hHeld.2.2.1)))), ((cell_far (p := ⟨gb602, _, none⟩) NB648_602.out _).trans (((cell_far (p := ⟨gb602, _, none⟩) NB648_602.out _).trans (hHeld.2.2.2.1)))), ((cell_far (p := ⟨gb602, _, none⟩) NB648_602.out _).trans (((cell_far (p := ⟨gb602, _, none⟩) NB648_602.out _).trans (hHeld.2.2.2.2))))⟩ (fun hHeld => ?_)
        clear hK K
        refine pt_ 7 5 255 ?_
        refine done_ (done_of HT_.out (by kernel_rfl)) ?_
        try go_wp2
        refine bodyPost_ret (results_list (rs := [.cell 2 31, .tmp 3, .cell 4 28, .tmp 5]) rfl (by simp) (.cell gb601 31 #[.slice Ao39 t628.length co39, .int .i64 t631, .string t632] (0, 0) _ rfl (by exact kq_ BK601) Try.underlying31 rfl (by kernel_rfl) (.tmp (.cell gb602 28 #[.int .i64 t646, .string t647] (0, 0) _ rfl (by exact kq_ BK602) Try.underlying28 rfl (by kernel_rfl) (.tmp .nil))))) rfl ?_
        exact ⟨_, _, _, by first | rfl | (simp [errW_none, errW_some] <;> rfl) | (simp only [← hji12]; first | rfl | (simp [errW_none, errW_some] <;> rfl)) | (simp [*, errW_none, errW_some] <;> rfl), by (with_reducible repeat (first | apply Kd.R_alloc | apply Kd.R_drewN | apply Kd.R_drew)); exact Kd.R_mono (Kd.R_far (p := ⟨gb602, 1, none⟩) (Kd.R_far (p := ⟨gb602, 0, none⟩) (Kd.R_far (p := ⟨gb601, 2, none⟩) (Kd.R_far (p := ⟨gb601, 1, none⟩) (Kd.R_far (p := ⟨gb601, 0, none⟩) (Kd.R_types (Kd.R_types HO630.out BK601.out (by decide)) BK602.out (by decide)) (fun _ hk => hk.1.2) (.slice Ao39 t628.length co39)) (fun _ hk => hk.1.2) (.int .i64 t631)) (fun _ hk => hk.1.2) (.string t632)) (fun _ hk => hk.2) (.int .i64 t646)) (fun _ hk => hk.2) (.string t647)) (fun _ hk => hk.1.1.2), by (with_reducible repeat (first | apply Kd.R_alloc | apply Kd.R_drewN | apply Kd.R_drew)); exact Kd.R_mono (Kd.R_far (p := ⟨gb602, 1, none⟩) (Kd.R_far (p := ⟨gb602, 0, none⟩) (Kd.R_far (p := ⟨gb601, 2, none⟩) (Kd.R_far (p := ⟨gb601, 1, none⟩) (Kd.R_far (p := ⟨gb601, 0, none⟩) (Kd.R_mono (Kd.R_types HO729.out BK601.out (by decide)) (fun k_ hk => (⟨hk, hk.1.1⟩ : _ ∧ k_ ≠ gb602))) (fun _ hk => hk.1.2) (.slice Ao39 t628.length co39)) (fun _ hk => hk.1.2) (.int .i64 t631)) (fun _ hk => hk.1.2) (.string t632)) (fun _ hk => hk.2) (.int .i64 t646)) (fun _ hk => hk.2) (.string t647)) (fun _ hk => trivial), by (with_reducible repeat (first | apply Kd.R_alloc | apply Kd.R_drewN | apply Kd.R_drew)); exact Kd.R_mono (Kd.R_far (p := ⟨gb602, 1, none⟩) (Kd.R_far (p := ⟨gb602, 0, none⟩) (Kd.R_far (p := ⟨gb601, 2, none⟩) (Kd.R_far (p := ⟨gb601, 1, none⟩) (Kd.R_far (p := ⟨gb601, 0, none⟩) (Kd.R_types (Kd.R_types HO658.out BK601.out (by decide)) BK602.out (by decide)) (fun _ hk => hk.1.2) (.slice Ao39 t628.length co39)) (fun _ hk => hk.1.2) (.int .i64 t631)) (fun _ hk => hk.1.2) (.string t632)) (fun _ hk => hk.2) (.int .i64 t646)) (fun _ hk => hk.2) (.string t647)) (fun _ hk => hk.1.1.2), by repeat (first | (with_reducible first | exact HB.out | apply below_alloc | apply pw_below_drewN | apply below_drew1 | refine below_set ?_ (IsS111.ge HI606.out) | refine below_set ?_ GE601.out | refine below_set ?_ GE602.out | refine below_set ?_ GE633.out | refine below_set ?_ GE648.out) | exact HB.out)⟩
end Go.Proofs.Ytjnnglphdaemaaa.Q
end

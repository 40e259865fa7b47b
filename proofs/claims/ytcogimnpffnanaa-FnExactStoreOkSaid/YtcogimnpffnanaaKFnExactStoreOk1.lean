-- Joined and shortened by a program of this session (wip/tools/shakecopy.py): the words of the print, texts of pp.sh and of mine.
import Derived.Test.YtcogimnpffnanaaKFnExactStoreOk0
import Derived.Test.YtcogimnpffnanaaProg
import Derived.Below
import Derived.Deep.Draws
import Derived.Deep.AppendLies
import Derived.Maps.AppendAt
import Derived.OwnWalk
import Derived.Laws.BytesArg
import Derived.Laws.MakeOwn
import Derived.Laws.OwnMore
import Derived.Deep.OwnRows
import Derived.Tactics
import Derived.Lib.ConvBytes
import Derived.Laws.Slices
import Derived.WalkKit
import Derived.KernelRfl
import Derived.RowKit3
import Derived.Deep.LoopGhost
import Derived.Deep.QuietTactic
import Derived.BigQuiet
import Derived.WideLaws
import Derived.Deep.DeepCutAuto
import Derived.Deep.CutBlock
import Derived.Deep.RegionHeld3
import Derived.Laws.Rows
import Derived.Lib.AppendStr
import Derived.ArgAppend
import Derived.Laws.IdiomCopy
import Derived.OrdersHeld
import Derived.Laws.BitsLemmas
import Derived.RowKit
import Derived.RegionTactic
import Derived.IntWalk
import Derived.RangeFuncNested
import Derived.RangeFuncBound
import Derived.RangeFuncCalls
import Derived.RangeFuncLeaves
import Derived.Shelf.Abstract
import Derived.Shelf.RegionOpen
import Derived.OwnWalkIn
import Derived.TacticsInMore
import Derived.LoopNIn
import Derived.LoopIn
import Derived.WalkLawsBesides
import Derived.RegionIn
import Derived.Lib.Strings
import Derived.Lib.SliceRun
section
namespace Go.Proofs.Ytcogimnpffnanaa
open Go.RowKit Go.Proofs.YtcogimnpffnanaaW.PrintWords Go.Proofs.YtcogimnpffnanaaW.PrintLast Go.Proofs.YtcogimnpffnanaaW.PrintMore
theorem bw_ {w w1 w2 : World} (h : Aside0 (Below w.heap.size w w1)) (g : Below w.heap.size w w1 → Below w.heap.size w w2 := by intro h_; repeat (first | (with_reducible first | exact h_ | apply below_alloc | apply pw_below_drewN | apply below_drew1) | exact h_)) : Below w.heap.size w w2 := g h.out
theorem bs1_ {w w1 w2 : World} {g1 : Nat} (h : Aside0 (Below w.heap.size w w1)) (e1 : w.heap.size ≤ g1) (g : Below w.heap.size w w1 → w.heap.size ≤ g1 → Below w.heap.size w w2 := by intro h_ e1_; repeat (first | (with_reducible first | exact h_ | apply below_alloc | apply pw_below_drewN | apply below_drew1 | refine below_set ?_ e1_) | exact h_)) : Below w.heap.size w w2 := g h.out e1
theorem bs2_ {w w1 w2 : World} {g1 g2 : Nat} (h : Aside0 (Below w.heap.size w w1)) (e1 : w.heap.size ≤ g1) (e2 : w.heap.size ≤ g2) (g : Below w.heap.size w w1 → w.heap.size ≤ g1 → w.heap.size ≤ g2 → Below w.heap.size w w2 := by intro h_ e1_ e2_; repeat (first | (with_reducible first | exact h_ | apply below_alloc | apply pw_below_drewN | apply below_drew1 | refine below_set ?_ e1_ | refine below_set ?_ e2_) | exact h_)) : Below w.heap.size w w2 := g h.out e1 e2
theorem bs3_ {w w1 w2 : World} {g1 g2 g3 : Nat} (h : Aside0 (Below w.heap.size w w1)) (e1 : w.heap.size ≤ g1) (e2 : w.heap.size ≤ g2) (e3 : w.heap.size ≤ g3) (g : Below w.heap.size w w1 → w.heap.size ≤ g1 → w.heap.size ≤ g2 → w.heap.size ≤ g3 → Below w.heap.size w w2 := by intro h_ e1_ e2_ e3_; repeat (first | (with_reducible first | exact h_ | apply below_alloc | apply pw_below_drewN | apply below_drew1 | refine below_set ?_ e1_ | refine below_set ?_ e2_ | refine below_set ?_ e3_) | exact h_)) : Below w.heap.size w w2 := g h.out e1 e2 e3
theorem kr_ {α : Type} {d : Kd α} {e : Nat} {w w' : World} {b : Nat} {ok : Nat → Prop} {v : Value} {xs : List α} (h : d.R e w b ok v xs) (g : d.R e w b ok v xs → d.R e w' b ok v xs := by intro h_; (with_reducible repeat (first | apply Kd.R_alloc | apply Kd.R_drewN | apply Kd.R_drew)); exact h_) : d.R e w' b ok v xs := g h
theorem cr_ {α : Type} {d : Kd α} {w w' : World} {A : Option Addr} {n : Nat} {xs : List α} (h : d.C w A n xs) (g : d.C w A n xs → d.C w' A n xs := by intro h_; repeat (first | exact h_ | (with_reducible refine Kd.C_alloc ?_ _) | (with_reducible refine Kd.C_drewN ?_ _) | (with_reducible refine Kd.C_drew ?_))) : d.C w' A n xs := g h
theorem kb_ {w w' : World} {g : Nat} {o : Obj} (h : w.heap[g]? = some o) (f : w.heap[g]? = some o → w'.heap[g]? = some o := by intro h_; (with_reducible repeat (first | refine blk_drewN ?_ _ | refine blk_drew ?_ | refine blk_alloc ?_ _)); exact h_) : w'.heap[g]? = some o := f h
section
variable {P : Program} {ops : Array Oper} {rest : List Oper} {o : Oper} {a : Act} {Q : Exit → Act → World → Prop} {W : World}
theorem gk_ (f : FuncId) {az : Array Operand} {ts : Array TypeId} (h : wpList P ops Q (o :: rest) a W) (_ho : o.op = .call { callee := .value (.func f), args := az, argTypes := ts } := by exact rfl) : wpList P ops Q (o :: rest) a W := h
theorem gn_ {f : FuncId} {fn : Func} {az : Array Operand} {ts : Array TypeId} (hf : P.funcs[f]? = some fn) (args : Array Value)
 (h : Calls P f args W fun e w' => ∃ v, e = .returned v ∧ wpList P ops Q rest (a.put none v) w')
 (hd : o.dst = none := by exact rfl) (hg : o.guard = none := by exact rfl) (hname : (fn.name == "runtime.NumGoroutine") = false := by kernel_rfl) (hb : fn.body.isSome = true := by exact rfl)
 (hop : o.op = .call { callee := .value (.func f), args := az, argTypes := ts } := by exact rfl)
 (hargs : az.map a.eval = args := by (try simp only [List.map_toArray, List.map_cons, List.map_nil]); first | done | rfl | (simp only [List.length_drop, List.length_take]; rfl)) : wpList P ops Q (o :: rest) a W := goesL_ none hd hg hf hname hb args hop hargs h
theorem gl_ (N : Tmp) {f : FuncId} {fn : Func} {az : Array Operand} {ts : Array TypeId} (hf : P.funcs[f]? = some fn) (args : Array Value)
 (h : Calls P f args W fun e w' => ∃ v, e = .returned v ∧ wpList P ops Q rest (a.put (some N) v) w')
 (hd : o.dst = some N := by exact rfl) (hg : o.guard = none := by exact rfl) (hname : (fn.name == "runtime.NumGoroutine") = false := by kernel_rfl) (hb : fn.body.isSome = true := by exact rfl)
 (hop : o.op = .call { callee := .value (.func f), args := az, argTypes := ts } := by exact rfl)
 (hargs : az.map a.eval = args := by (try simp only [List.map_toArray, List.map_cons, List.map_nil]); first | done | rfl | (simp only [List.length_drop, List.length_take]; rfl)) : wpList P ops Q (o :: rest) a W := goesL_ (some N) hd hg hf hname hb args hop hargs h
theorem gm_ {x y : Int} (hx : x = y) (N : Tmp) {f : FuncId} {fn : Func} {az : Array Operand} {ts : Array TypeId} (hf : P.funcs[f]? = some fn) (args : Array Value)
 (h : Calls P f args W fun e w' => ∃ v, e = .returned v ∧ wpList P ops Q rest (a.put (some N) v) w')
 (hd : o.dst = some N := by exact rfl) (hg : o.guard = none := by exact rfl) (hname : (fn.name == "runtime.NumGoroutine") = false := by kernel_rfl) (hb : fn.body.isSome = true := by exact rfl)
 (hop : o.op = .call { callee := .value (.func f), args := az, argTypes := ts } := by exact rfl)
 (hargs : x = y → az.map a.eval = args := by intro hx_; (try simp only [List.map_toArray, List.map_cons, List.map_nil]); first | done | (simp only [hx_]; rfl) | rfl | (simp only [List.length_drop, List.length_take]; rfl)) : wpList P ops Q (o :: rest) a W := goesL_ (some N) hd hg hf hname hb args hop (hargs hx) h
end
section
variable {P : Program} {ops : Array Oper} {rest : List Oper} {o : Oper} {a : Act} {Q : Exit → Act → World → Prop} {α : Type}
theorem rl_ (d : Kd α) (e : Nat) (N : Tmp) (xs : List α) (inner : List Value) {W : World}
 (h : ∀ v1 w1, d.R e w1 W.heap.size (fun _ => True) v1 xs → Below W.heap.size W w1 → W.grownBy w1 none → (∃ b, v1.ownBlock = some b ∧ W.heap.size ≤ b) → wpList P ops Q rest (a.put o.dst v1) w1)
 (hd : o.dst = some N := by exact rfl) (hg : o.guard = none := by exact rfl)
 (hr : (execOp a.eval o).run P W = .ok (.value (.slice (some ⟨W.heap.size, 0, none⟩) xs.length xs.length)) (W.alloc (.cells inner.toArray e)) := by first | (go_simp; done) | (go_simp; rfl))
 (hp : Reps (d.M W W.heap.size (fun _ => True)) d.sz xs inner := by repeat (first | exact Reps.none _ _ | refine Reps.one (show Kd.M _ _ _ _ _ _ from rfl) ?_)) (hm : xs.length ≤ 9223372036854775807 := by simp) : wpList P ops Q (o :: rest) a W :=
 Kd.R_lit d W.heap.size e hg hd hr hp (fun _ hk => hk) trivial (Below.refl _ _) (Nat.le_refl _) hm h
end
section
variable {P : Program} {ops : Array Oper} {Q : Exit → Act → World → Prop} {md : Region.Mode} {S : World → Prop} {ds : List Nat} {oi : Oper} {v : Value} {fuel : Nat} {l : Array Bool} {a a' : Act} {w : World} {T : Bool × List (List Nat × List Nat)} {B : List Nat}
def lz_ (n m : Nat) : Array Bool := ((List.range n).map fun i => Nat.testBit m i).toArray
theorem pt_ (i : Nat) (N : Tmp) {n : Nat} {m0 : Nat} (m : Nat) (h : wpAnyLast P md ops Q S ds fuel (lz_ n m) a' w)
 (hi : ops[i]? = some oi := by exact rfl) (hN : oi.dst = some N := by exact rfl) (hc : anyB md ops (lz_ n m0) (lz_ n m) i = true := by exact any_of HT_.out (by kernel_rfl)) (hQ : ∀ c a w, Q (.panic c) (a.put oi.dst v) w → Q (.panic c) a w := by exact fun _ _ _ h => h)
 (hy : Yields P ops oi v a := by exact Or.inl ⟨by rfl, by intro w'; go_simp; with_reducible rfl⟩) (ha : a.put (some N) v = a' := by simp only [Act.put, List.setIfInBounds_toArray, List.set_cons_zero, List.set_cons_succ, i64_w, i32_w]; rfl) : wpAnyLast P md ops Q S ds (fuel + 1) (lz_ n m0) a w := pure_ _ hi hN hc hQ hy ha h
theorem pts_ (i : Nat) (N : Tmp) {n : Nat} {m0 : Nat} (m : Nat) (h : wpAnyLast P md ops Q S ds fuel (lz_ n m) a' w)
 (hi : ops[i]? = some oi := by exact rfl) (hN : oi.dst = some N := by exact rfl) (hc : anyB md ops (lz_ n m0) (lz_ n m) i = true := by exact any_of HT_.out (by kernel_rfl)) (hQ : ∀ c a w, Q (.panic c) (a.put oi.dst v) w → Q (.panic c) a w := by exact fun _ _ _ h => h)
 (hy : Yields P ops oi v a := by exact Or.inl ⟨by rfl, by intro w'; go_simp; with_reducible rfl⟩) (ha : a.put (some N) v = a' := by simp only [Act.put, sT, sZ, sS, i64_w, i32_w]; rfl) : wpAnyLast P md ops Q S ds (fuel + 1) (lz_ n m0) a w := pure_ _ hi hN hc hQ hy ha h
theorem pk_ (i : Nat) (N : Tmp) {n : Nat} {m0 : Nat} (m : Nat) (h : wpAnyLast P md ops Q S ds fuel (lz_ n m) a' w)
 (hi : ops[i]? = some oi := by exact rfl) (hN : oi.dst = some N := by exact rfl) (hc : anyB md ops (lz_ n m0) (lz_ n m) i = true := by kernel_rfl) (hQ : ∀ c a w, Q (.panic c) (a.put oi.dst v) w → Q (.panic c) a w := by exact fun _ _ _ h => h)
 (hy : Yields P ops oi v a := by exact Or.inl ⟨by rfl, by intro w'; go_simp; with_reducible rfl⟩) (ha : a.put (some N) v = a' := by simp only [Act.put, List.setIfInBounds_toArray, List.set_cons_zero, List.set_cons_succ, i64_w, i32_w]; rfl) : wpAnyLast P md ops Q S ds (fuel + 1) (lz_ n m0) a w := pure_ _ hi hN hc hQ hy ha h
theorem ut_ (i : Nat) (N : Tmp) {n : Nat} {m0 : Nat} (m : Nat) (h : wpAnyLast P md ops Q S ds fuel (lz_ n m) a' w)
 (hi : ops[i]? = some oi := by exact rfl) (hN : oi.dst = some N := by exact rfl) (hc : anyB md ops (lz_ n m0) (lz_ n m) i = true := by exact any_of HT_.out (by kernel_rfl)) (hQ : ∀ c a w, Q (.panic c) (a.put oi.dst undef) w → Q (.panic c) a w := by exact fun _ _ _ h => h)
 (hy : Yields P ops oi undef a := by exact Or.inr ⟨by rfl, rfl⟩) (ha : a.put (some N) undef = a' := by simp only [Act.put, List.setIfInBounds_toArray, List.set_cons_zero, List.set_cons_succ, i64_w, i32_w]; rfl) : wpAnyLast P md ops Q S ds (fuel + 1) (lz_ n m0) a w := pure_ _ hi hN hc hQ hy ha h
theorem uts_ (i : Nat) (N : Tmp) {n : Nat} {m0 : Nat} (m : Nat) (h : wpAnyLast P md ops Q S ds fuel (lz_ n m) a' w)
 (hi : ops[i]? = some oi := by exact rfl) (hN : oi.dst = some N := by exact rfl) (hc : anyB md ops (lz_ n m0) (lz_ n m) i = true := by exact any_of HT_.out (by kernel_rfl)) (hQ : ∀ c a w, Q (.panic c) (a.put oi.dst undef) w → Q (.panic c) a w := by exact fun _ _ _ h => h)
 (hy : Yields P ops oi undef a := by exact Or.inr ⟨by rfl, rfl⟩) (ha : a.put (some N) undef = a' := by simp only [Act.put, sT, sZ, sS, i64_w, i32_w]; rfl) : wpAnyLast P md ops Q S ds (fuel + 1) (lz_ n m0) a w := pure_ _ hi hN hc hQ hy ha h
theorem uk_ (i : Nat) (N : Tmp) {n : Nat} {m0 : Nat} (m : Nat) (h : wpAnyLast P md ops Q S ds fuel (lz_ n m) a' w)
 (hi : ops[i]? = some oi := by exact rfl) (hN : oi.dst = some N := by exact rfl) (hc : anyB md ops (lz_ n m0) (lz_ n m) i = true := by kernel_rfl) (hQ : ∀ c a w, Q (.panic c) (a.put oi.dst undef) w → Q (.panic c) a w := by exact fun _ _ _ h => h)
 (hy : Yields P ops oi undef a := by exact Or.inr ⟨by rfl, rfl⟩) (ha : a.put (some N) undef = a' := by simp only [Act.put, List.setIfInBounds_toArray, List.set_cons_zero, List.set_cons_succ, i64_w, i32_w]; rfl) : wpAnyLast P md ops Q S ds (fuel + 1) (lz_ n m0) a w := pure_ _ hi hN hc hQ hy ha h
theorem tt_ (i : Nat) (N : Tmp) {n : Nat} {m0 : Nat} (m : Nat) (h : wpAnyLast P md ops Q S ds fuel (lz_ n m) a' w)
 (hi : ops[i]? = some oi := by exact rfl) (hN : oi.dst = some N := by exact rfl) (hc : takeB md ops ds (lz_ n m0) (lz_ n m) i = true := by exact take_ofW HT_.out HW_.out (by kernel_rfl)) (hQ : ∀ c a w, Q (.panic c) (a.put oi.dst v) w → Q (.panic c) a w := by exact fun _ _ _ h => h)
 (hy : YieldsIf P ops S oi v a := by exact Or.inl ⟨by rfl, by intro w' hs_; (repeat (have s_ := And.left hs_; replace hs_ := And.right hs_)); go_simp; with_reducible rfl⟩) (hS : S w := by exact hHeld) (ha : a.put (some N) v = a' := by simp only [Act.put, List.setIfInBounds_toArray, List.set_cons_zero, List.set_cons_succ, i64_w, i32_w]; rfl) : wpAnyLast P md ops Q S ds (fuel + 1) (lz_ n m0) a w := take_ _ hi hN hc hQ hy hS ha h
theorem tts_ (i : Nat) (N : Tmp) {n : Nat} {m0 : Nat} (m : Nat) (h : wpAnyLast P md ops Q S ds fuel (lz_ n m) a' w)
 (hi : ops[i]? = some oi := by exact rfl) (hN : oi.dst = some N := by exact rfl) (hc : takeB md ops ds (lz_ n m0) (lz_ n m) i = true := by exact take_ofW HT_.out HW_.out (by kernel_rfl)) (hQ : ∀ c a w, Q (.panic c) (a.put oi.dst v) w → Q (.panic c) a w := by exact fun _ _ _ h => h)
 (hy : YieldsIf P ops S oi v a := by exact Or.inl ⟨by rfl, by intro w' hs_; (repeat (have s_ := And.left hs_; replace hs_ := And.right hs_)); go_simp; with_reducible rfl⟩) (hS : S w := by exact hHeld) (ha : a.put (some N) v = a' := by simp only [Act.put, sT, sZ, sS, i64_w, i32_w]; rfl) : wpAnyLast P md ops Q S ds (fuel + 1) (lz_ n m0) a w := take_ _ hi hN hc hQ hy hS ha h
theorem tk_ (i : Nat) (N : Tmp) {n : Nat} {m0 : Nat} (m : Nat) (h : wpAnyLast P md ops Q S ds fuel (lz_ n m) a' w)
 (hi : ops[i]? = some oi := by exact rfl) (hN : oi.dst = some N := by exact rfl) (hc : takeB md ops ds (lz_ n m0) (lz_ n m) i = true := by kernel_rfl) (hQ : ∀ c a w, Q (.panic c) (a.put oi.dst v) w → Q (.panic c) a w := by exact fun _ _ _ h => h)
 (hy : YieldsIf P ops S oi v a := by exact Or.inl ⟨by rfl, by intro w' hs_; (repeat (have s_ := And.left hs_; replace hs_ := And.right hs_)); go_simp; with_reducible rfl⟩) (hS : S w := by exact hHeld) (ha : a.put (some N) v = a' := by simp only [Act.put, List.setIfInBounds_toArray, List.set_cons_zero, List.set_cons_succ, i64_w, i32_w]; rfl) : wpAnyLast P md ops Q S ds (fuel + 1) (lz_ n m0) a w := take_ _ hi hN hc hQ hy hS ha h
end
theorem nf_ : ¬ (false = true) := by decide
theorem sb_ {α β : Type} (x : α) {f : α → Option β} {r : β} (h : (some x).bind f = some r) : ∃ y, Aside0 (y = x) ∧ f y = some r := ⟨x, ⟨rfl⟩, h⟩
theorem e1_ {p : Prop} (h : p := by first | rfl | (simp; done) | (simp [*]; done)) : p := h
theorem e2_ {p : Prop} (h : p := by first | rfl | (simp [errW_none, errW_some] <;> rfl) | (simp [*, errW_none, errW_some] <;> rfl)) : p := h
theorem dw_ {w w' : World} (h : Drawn0 w w' := by repeat (first | exact Drawn0.refl _ | apply Drawn0.step)) : Drawn0 w w' := h
theorem le_ {a b : Nat} (h : a ≤ b := by first | omega | exact Nat.le_refl _) : a ≤ b := h
theorem as_ {p : Prop} (h : p := by first | (with_reducible assumption) | assumption) : p := h
section
variable {w : World} {g : Nat} {t : TypeId} {c0 c1 c2 c3 c4 c5 c6 c7 c8 : Value} {l : List Value}
theorem bc0_ (h : w.heap[g]? = some (.cells (c0 :: l).toArray t (0, 0))) : w.cell? ⟨g, 0, none⟩ = some c0 := (blk_cell h 0).trans rfl
theorem bc1_ (h : w.heap[g]? = some (.cells (c0 :: c1 :: l).toArray t (0, 0))) : w.cell? ⟨g, 1, none⟩ = some c1 := (blk_cell h 1).trans rfl
theorem bc2_ (h : w.heap[g]? = some (.cells (c0 :: c1 :: c2 :: l).toArray t (0, 0))) : w.cell? ⟨g, 2, none⟩ = some c2 := (blk_cell h 2).trans rfl
theorem bc3_ (h : w.heap[g]? = some (.cells (c0 :: c1 :: c2 :: c3 :: l).toArray t (0, 0))) : w.cell? ⟨g, 3, none⟩ = some c3 := (blk_cell h 3).trans rfl
theorem bc4_ (h : w.heap[g]? = some (.cells (c0 :: c1 :: c2 :: c3 :: c4 :: l).toArray t (0, 0))) : w.cell? ⟨g, 4, none⟩ = some c4 := (blk_cell h 4).trans rfl
theorem bc5_ (h : w.heap[g]? = some (.cells (c0 :: c1 :: c2 :: c3 :: c4 :: c5 :: l).toArray t (0, 0))) : w.cell? ⟨g, 5, none⟩ = some c5 := (blk_cell h 5).trans rfl
theorem bc6_ (h : w.heap[g]? = some (.cells (c0 :: c1 :: c2 :: c3 :: c4 :: c5 :: c6 :: l).toArray t (0, 0))) : w.cell? ⟨g, 6, none⟩ = some c6 := (blk_cell h 6).trans rfl
theorem bc7_ (h : w.heap[g]? = some (.cells (c0 :: c1 :: c2 :: c3 :: c4 :: c5 :: c6 :: c7 :: l).toArray t (0, 0))) : w.cell? ⟨g, 7, none⟩ = some c7 := (blk_cell h 7).trans rfl
theorem bc8_ (h : w.heap[g]? = some (.cells (c0 :: c1 :: c2 :: c3 :: c4 :: c5 :: c6 :: c7 :: c8 :: l).toArray t (0, 0))) : w.cell? ⟨g, 8, none⟩ = some c8 := (blk_cell h 8).trans rfl
end
end Go.Proofs.Ytcogimnpffnanaa
end
section
section
namespace Go.Proofs.Ytcogimnpffnanaa.Q
open Go.RowKit Go.Proofs.YtcogimnpffnanaaW.PrintWords Go.Proofs.YtcogimnpffnanaaW.PrintLast Go.Proofs.YtcogimnpffnanaaW.PrintMore
attribute [local go_sem] max2_int min2_int max_two min_two max_three min_three max_four min_four   -- for this text's walks alone
set_option linter.unusedVariables false
set_option linter.unusedSimpArgs false
def errW : Option Int → Value
 | none => .nilIface
 | some c => .iface 0 (.int .i64 c)
theorem errW_none : errW none = .nilIface := rfl
theorem errW_some (c : Int) : errW (some c) = .iface 0 (.int .i64 c) := rfl
theorem info3 : (Try.prog.info? 3).map (fun i => (i.zero, i.size, i.bytes)) = some (some (.int .i64 0), 1, 8) := by kernel_rfl
theorem info5 : (Try.prog.info? 5).map (fun i => (i.zero, i.size, i.bytes)) = some (some (.int .u8 0), 1, 1) := by kernel_rfl
theorem info9 : (Try.prog.info? 9).map (fun i => (i.zero, i.size, i.bytes)) = some (some (.string ⟨#[]⟩), 1, 16) := by kernel_rfl
structure S63 where
 f0 : Int
 f1 : (List ByteArray)
structure S31 where
 f0 : Int
 f1 : ByteArray
structure S33 where
 f0 : Int
 f1 : Int
 f2 : Int
 f3 : S31
 f4 : Int
 f5 : (List ByteArray)
structure S24 where
 f0 : Int
 f1 : ByteArray
def k24 : Kd S24 := Kd.iso (Kd.pair (Kd.int .i64) Kd.string) (fun x : S24 => (x.f0, x.f1))
theorem k24_open {w : World} {x : S24} {cs : List Value} (h : k24.K w x cs) : cs = [.int .i64 x.f0, .string x.f1] := by
 obtain ⟨_, _, rfl, rfl, rfl⟩ := h
 exact rfl
structure S60 where
 f0 : Int
 f1 : (List ByteArray)
structure S27 where
 f0 : Int
 f1 : Int
 f2 : Int
 f3 : S24
 f4 : Int
 f5 : (List ByteArray)
structure S97 where
 f0 : (List ByteArray)
 f1 : S24
def k97 : Kd S97 := Kd.iso (Kd.pair (Kd.slice 9 Kd.string) k24) (fun x : S97 => (x.f0, x.f1))
theorem k97_open {w : World} {x : S97} {cs : List Value} (h : k97.K w x cs) : ∃ A0 c0, cs = [.slice A0 x.f0.length c0, .int .i64 x.f1.f0, .string x.f1.f1] ∧ x.f0.length ≤ c0 ∧ Kd.string.C w A0 x.f0.length x.f0 := by
 obtain ⟨_, _, rfl, ⟨A0, c0, rfl, l0, g0⟩, s1⟩ := h
 obtain rfl := k24_open s1
 exact ⟨A0, c0, rfl, l0, g0⟩
structure S111 where
 f0 : S97
 f1 : (List Int)
 f2 : Int
def k111 : Kd S111 := Kd.iso (Kd.pair k97 (Kd.pair (Kd.slice 5 (Kd.int .u8)) (Kd.int .i64))) (fun x : S111 => (x.f0, x.f1, x.f2))
theorem k111_open {w : World} {x : S111} {cs : List Value} (h : k111.K w x cs) : ∃ A0 c0 A3 c3, cs = [.slice A0 x.f0.f0.length c0, .int .i64 x.f0.f1.f0, .string x.f0.f1.f1, .slice A3 x.f1.length c3, .int .i64 x.f2] ∧ x.f0.f0.length ≤ c0 ∧ Kd.string.C w A0 x.f0.f0.length x.f0.f0 ∧ x.f1.length ≤ c3 ∧ (Kd.int .u8).C w A3 x.f1.length x.f1 := by
 obtain ⟨_, _, rfl, s0, ⟨_, _, rfl, ⟨A3, c3, rfl, l3, g3⟩, rfl⟩⟩ := h
 obtain ⟨A0, c0, rfl, l0, g0⟩ := k97_open s0
 exact ⟨A0, c0, A3, c3, rfl, l0, g0, l3, g3⟩
end Go.Proofs.Ytcogimnpffnanaa.Q
end
section
namespace Go.Proofs.Ytcogimnpffnanaa.Q
open Go.RowKit Go.Proofs.YtcogimnpffnanaaW.PrintWords Go.Proofs.YtcogimnpffnanaaW.PrintLast Go.Proofs.YtcogimnpffnanaaW.PrintMore
attribute [local go_sem] max2_int min2_int max_two min_two max_three min_three max_four min_four   -- for this text's walks alone
set_option linter.unusedVariables false
set_option linter.unusedSimpArgs false
def bits_RotateLeft32.f (a0 : Int) (a1 : Int) : Option (Int) := if 0 ≤ (Go.bits .and .u64 (IntKind.u64.wrap (a1)) 31) then (if 0 ≤ (IntKind.u64.wrap (32 - (Go.bits .and .u64 (IntKind.u64.wrap (a1)) 31))) then (some (Go.bits .or .u32 (shl .u32 a0 (Go.bits .and .u64 (IntKind.u64.wrap (a1)) 31)) (shr .u32 a0 (IntKind.u64.wrap (32 - (Go.bits .and .u64 (IntKind.u64.wrap (a1)) 31)))))) else (none)) else (none)
set_option maxHeartbeats 8000000 in
set_option maxRecDepth 100000 in
theorem bits_RotateLeft32.calls (a0 : Int) (a1 : Int) (r : Int) (w : World) (h : bits_RotateLeft32.f a0 a1 = some r) :
  Calls Try.prog 180 #[.int .u32 a0, .int .i64 a1] w fun e w' => e = .returned (.int .u32 r) ∧ Drawn0 w w' := by
 have H : (if 0 ≤ (Go.bits .and .u64 (IntKind.u64.wrap (a1)) 31) then (if 0 ≤ (IntKind.u64.wrap (32 - (Go.bits .and .u64 (IntKind.u64.wrap (a1)) 31))) then (some (Go.bits .or .u32 (shl .u32 a0 (Go.bits .and .u64 (IntKind.u64.wrap (a1)) 31)) (shr .u32 a0 (IntKind.u64.wrap (32 - (Go.bits .and .u64 (IntKind.u64.wrap (a1)) 31)))))) else (none)) else (none)) = some r := h
 clear h
 obtain ⟨ji3, hji3⟩ : ∃ j_ : Int, (Go.bits .and .u64 (IntKind.u64.wrap (a1)) 31) = j_ := ⟨_, rfl⟩
 replace H : (if 0 ≤ (ji3) then (if 0 ≤ (IntKind.u64.wrap (32 - (ji3))) then (some (Go.bits .or .u32 (shl .u32 a0 (ji3)) (shr .u32 a0 (IntKind.u64.wrap (32 - (ji3)))))) else (none)) else (none)) = some r := by first | (rw [hji3] at H; exact H) | (simp only [hji3] at H ⊢; exact H)
 by_cases c4 : 0 ≤ (ji3)
 ·rw [if_pos c4] at H
  have c4b0 := eq_true c4
  have c4b1 := decide_eq_true c4
  clear c4
  obtain ⟨ji5, hji5⟩ : ∃ j_ : Int, (shl .u32 a0 (ji3)) = j_ := ⟨_, rfl⟩
  replace H : (if 0 ≤ (IntKind.u64.wrap (32 - (ji3))) then (some (Go.bits .or .u32 (ji5) (shr .u32 a0 (IntKind.u64.wrap (32 - (ji3)))))) else (none)) = some r := by first | (rw [hji5] at H; exact H) | (simp only [hji5] at H ⊢; exact H)
  have hji5_ : (IntKind.u32.wrap (a0 * 2 ^ min (ji3).toNat 32)) = ji5 := hji5
  have hji5z : (ji3) ≤ 32 → (IntKind.u32.wrap (a0 * 2 ^ (ji3).toNat)) = ji5 := shl_small hji5
  obtain ⟨ji6, hji6⟩ : ∃ j_ : Int, (IntKind.u64.wrap (32 - (ji3))) = j_ := ⟨_, rfl⟩
  replace H : (if 0 ≤ (ji6) then (some (Go.bits .or .u32 (ji5) (shr .u32 a0 (ji6)))) else (none)) = some r := by first | (rw [hji6] at H; exact H) | (simp only [hji6] at H ⊢; exact H)
  by_cases c7 : 0 ≤ (ji6)
  ·rw [if_pos c7] at H
   have c7b0 := eq_true c7
   have c7b1 := decide_eq_true c7
   clear c7
   obtain ⟨ji8, hji8⟩ : ∃ j_ : Int, (shr .u32 a0 (ji6)) = j_ := ⟨_, rfl⟩
   replace H : (some (Go.bits .or .u32 (ji5) (ji8))) = some r := by first | (rw [hji8] at H; exact H) | (simp only [hji8] at H ⊢; exact H)
   have hji8_ : (a0 / 2 ^ min (ji6).toNat 32) = ji8 := hji8
   have hji8z : (ji6) ≤ 32 → (a0 / 2 ^ (ji6).toNat) = ji8 := shr_small hji8
   obtain rfl := Option.some.inj H
   go_enter Try.func180, Try.ntmps180
   go_wp2
   go_ret
   exact ⟨by first | rfl | (simp; done) | (simp only [← hji3, ← hji5, ← hji6, ← hji8] <;> (first | rfl | simp)) | (simp [*]; done), dw_⟩
  ·rw [if_neg c7] at H
   exact absurd H (by simp)
 ·rw [if_neg c4] at H
  exact absurd H (by simp)
end Go.Proofs.Ytcogimnpffnanaa.Q
end
section
/- bits.RotateLeft32 at the ten counts that the digest uses: a turn to the right. -/
namespace Go.Proofs.Ytcogimnpffnanaa.Q
open Go.RowKit Go.Proofs.YtcogimnpffnanaaW.PrintWords Go.Proofs.YtcogimnpffnanaaW.PrintLast Go.Proofs.YtcogimnpffnanaaW.PrintMore
def rotr (x : Int) (n : Nat) : Int := Go.bits .or .u32 (shl .u32 x (32 - n)) (shr .u32 x n)
theorem rot_of (x k : Int) (n : Nat) (h1 : Go.bits .and .u64 (IntKind.u64.wrap k) 31 = 32 - (n : Int)) (h2 : IntKind.u64.wrap (32 - (32 - (n : Int))) = (n : Int)) (hn : n ≤ 32) : bits_RotateLeft32.f x k = some (rotr x n) := by
 unfold bits_RotateLeft32.f rotr
 rw [h1, h2, if_pos (by omega), if_pos (by omega)]
theorem rot2 (x : Int) : bits_RotateLeft32.f x (-2) = some (rotr x 2) := rot_of x _ 2 (by decide +kernel) (by decide +kernel) (by decide)
theorem rot6 (x : Int) : bits_RotateLeft32.f x (-6) = some (rotr x 6) := rot_of x _ 6 (by decide +kernel) (by decide +kernel) (by decide)
theorem rot7 (x : Int) : bits_RotateLeft32.f x (-7) = some (rotr x 7) := rot_of x _ 7 (by decide +kernel) (by decide +kernel) (by decide)
theorem rot11 (x : Int) : bits_RotateLeft32.f x (-11) = some (rotr x 11) := rot_of x _ 11 (by decide +kernel) (by decide +kernel) (by decide)
theorem rot13 (x : Int) : bits_RotateLeft32.f x (-13) = some (rotr x 13) := rot_of x _ 13 (by decide +kernel) (by decide +kernel) (by decide)
theorem rot17 (x : Int) : bits_RotateLeft32.f x (-17) = some (rotr x 17) := rot_of x _ 17 (by decide +kernel) (by decide +kernel) (by decide)
theorem rot18 (x : Int) : bits_RotateLeft32.f x (-18) = some (rotr x 18) := rot_of x _ 18 (by decide +kernel) (by decide +kernel) (by decide)
theorem rot19 (x : Int) : bits_RotateLeft32.f x (-19) = some (rotr x 19) := rot_of x _ 19 (by decide +kernel) (by decide +kernel) (by decide)
theorem rot22 (x : Int) : bits_RotateLeft32.f x (-22) = some (rotr x 22) := rot_of x _ 22 (by decide +kernel) (by decide +kernel) (by decide)
theorem rot25 (x : Int) : bits_RotateLeft32.f x (-25) = some (rotr x 25) := rot_of x _ 25 (by decide +kernel) (by decide +kernel) (by decide)
end Go.Proofs.Ytcogimnpffnanaa.Q
end
section
/- impl.wordsOf: the 64 words of a block of 64 bytes, in a new array. -/
namespace Go.Proofs.Ytcogimnpffnanaa.Q
open Go.RowKit Go.Proofs.YtcogimnpffnanaaW.PrintWords Go.Proofs.YtcogimnpffnanaaW.PrintLast Go.Proofs.YtcogimnpffnanaaW.PrintMore
set_option linter.unusedVariables false
set_option linter.unusedSimpArgs false
def be32 (bs : List Int) (i : Nat) : Int := Go.bits .or .u32 (Go.bits .or .u32 (Go.bits .or .u32 (rd bs (4 * (i : Int)) % 4294967296 * 16777216 % 4294967296) (rd bs (4 * (i : Int) + 1) % 4294967296 * 65536 % 4294967296)) (rd bs (4 * (i : Int) + 2) % 4294967296 * 256 % 4294967296)) (rd bs (4 * (i : Int) + 3) % 4294967296)
def wMix (a16 a15 a7 a2 : Int) : Int := (a16 + Go.bits .xor .u32 (Go.bits .xor .u32 (rotr a15 7) (rotr a15 18)) (a15 / 8) + a7 + Go.bits .xor .u32 (Go.bits .xor .u32 (rotr a2 17) (rotr a2 19)) (a2 / 1024)) % 4294967296
def wAt (bs : List Int) : Nat → List Int
 | 0 => List.replicate 64 0
 | i + 1 => (wAt bs i).set i (if i < 16 then be32 bs i else wMix ((wAt bs i).getD (i - 16) 0) ((wAt bs i).getD (i - 15) 0) ((wAt bs i).getD (i - 7) 0) ((wAt bs i).getD (i - 2) 0))
theorem wAt_length (bs : List Int) (i : Nat) : (wAt bs i).length = 64 := by
 induction i with
 | zero => simp [wAt]
 | succ i ih => simp [wAt, ih]
def arrU (ys : List Int) : Array Value := (nums .u32 ys).toArray
theorem arrU_get {ys : List Int} {i : Nat} (h : i < ys.length) : (arrU ys)[i]? = some (.int .u32 (ys.getD i 0)) := by
 simp [arrU, nums, List.getElem?_eq_getElem h, List.getD_eq_getElem?_getD]
theorem arrU_set (ys : List Int) (i : Nat) (v : Int) : (arrU ys).setIfInBounds i (.int .u32 v) = arrU (ys.set i v) := by
 simp [arrU, nums, List.map_set]
theorem bytes_at {w : World} {A : Option Addr} {n : Nat} {bs : List Int} (h : Kd.C (Kd.int .u8) w A n bs) (h0 : 0 < n) : ∃ ad, A = some ad ∧ ad.block < w.heap.size ∧ ∀ i : Nat, i < n → w.cell? (ad.add i) = some (.int .u8 (rd bs i)) := by
 obtain ⟨ad, e, hcell⟩ := h.2.2 h0
 have hl := h.1
 have hby : ∀ i : Nat, i < n → w.cell? (ad.add i) = some (.int .u8 (rd bs i)) := by
  intro i hi
  obtain ⟨x, hx⟩ : ∃ x, bs[i]? = some x := ⟨bs[i], List.getElem?_eq_getElem (by omega)⟩
  obtain ⟨cs, _, hk, hcc⟩ := hcell i x hx
  have hk2 : cs = [.int .u8 x] := hk
  have := hcc 0 (.int .u8 x) (by rw [hk2]; rfl)
  rw [show i * (Kd.int .u8).sz + 0 = i from by simp [Kd.int, Kd.scalar]] at this
  rw [this]
  unfold rd
  simp [List.getD_eq_getElem?_getD, hx]
 have had := World.block_lt_of_cell? w _ (hby 0 h0)
 exact ⟨ad, e, by simpa [Addr.add] using had, hby⟩
set_option maxHeartbeats 4000000 in
set_option maxRecDepth 100000 in
theorem wordsOf_calls (A : Option Addr) (c : Nat) (bs : List Int) (w : World) (hr : Kd.C (Kd.int .u8) w A bs.length bs) (hl : bs.length = 64) :
  Calls Try.prog 179 #[.slice A bs.length c] w fun e w' => ∃ g, e = .returned (.pointer (some ⟨g, 0, none⟩)) ∧ w.heap.size ≤ g ∧ w'.heap[g]? = some (.cells (arrU (wAt bs 64)) 191 (0, 0)) ∧ Below w.heap.size w w' := by
 have HL := Aside0.mk hl
 obtain ⟨ad, rfl, hadl, hby⟩ := bytes_at hr (by omega)
 have HAD := Aside0.mk hadl
 have HBY := Aside0.mk hby
 clear hr hl hby hadl
 go_enter Try.func179, Try.ntmps179
 go_wp2
 go_loopw [10] (fun i W => ∃ k : Nat, k ≤ 16 ∧ i = .int .i64 k ∧ Aside0 (W.heap[w.heap.size]? = some (.cells (arrU (wAt bs k)) 191 (0, 0))) ∧ Aside0 (Below w.heap.size w W)) (fun i _ => 16 - (intOf i).toNat)
 case atStart =>
  refine ⟨0, by omega, rfl, ⟨?_⟩, ⟨(Below.refl _ _).alloc (Nat.le_refl _) _⟩⟩
  rw [blk_new]
  rfl
 case round =>
  obtain ⟨k, hk, rfl, HG, HB⟩ := hrel
  by_cases hlt : k < 16
  ·have hb11 : decide ((k : Int) < 16) = true := decide_eq_true (by omega)
   have hblk : ∀ i : Nat, (ad.add i).block = ad.block := fun i => by unfold Addr.add; split <;> rfl
   have hL := HL.out
   have ee : ∀ i : Nat, i < 64 → wr.cell? (ad.add i) = some (.int .u8 (rd bs i)) := fun i hi => (HB.out.cell (by rw [hblk]; exact HAD.out)).trans (HBY.out i (by omega))
   have e0 := ee (4 * k) (by omega)
   have hpl : ∀ i : Nat, ad.add (i + 1) = ⟨ad.block, ad.off + (i + 1), none⟩ := fun i => by unfold Addr.add; rw [if_neg (by omega)]
   have e1' : wr.cell? ⟨ad.block, ad.off + (4 * k + 1), none⟩ = some (.int .u8 (rd bs (4 * (k : Int) + 1))) := by rw [← hpl]; exact ee (4 * k + 1) (by omega)
   have e2' : wr.cell? ⟨ad.block, ad.off + (4 * k + 1 + 1), none⟩ = some (.int .u8 (rd bs (4 * (k : Int) + 2))) := by rw [← hpl]; exact ee (4 * k + 2) (by omega)
   have e3' : wr.cell? ⟨ad.block, ad.off + (4 * k + 2 + 1), none⟩ = some (.int .u8 (rd bs (4 * (k : Int) + 3))) := by rw [← hpl]; exact ee (4 * k + 3) (by omega)
   have e2'' : wr.cell? ⟨ad.block, ad.off + (4 * k + 2), none⟩ = some (.int .u8 (rd bs (4 * (k : Int) + 2))) := e2'
   have e3'' : wr.cell? ⟨ad.block, ad.off + (4 * k + 3), none⟩ = some (.int .u8 (rd bs (4 * (k : Int) + 3))) := e3'
   clear ee hblk hpl
   have hcl : wr.cell? ⟨w.heap.size, k, none⟩ = some (.int .u32 ((wAt bs k).getD k 0)) := (blk_cell HG.out k).trans (arrU_get (by rw [wAt_length]; omega))
   obtain ⟨old, hold⟩ : ∃ old, old = (wAt bs k).getD k 0 := ⟨_, rfl⟩
   rw [← hold] at hcl
   clear hold
   have hfl := blk_frozen HG.out k
   have s0 : IntKind.i64.wrap (4 * (k : Int)) = 4 * (k : Int) := IntWalk.i64_in _ ⟨by omega, by omega⟩
   have s1 : IntKind.i64.wrap (4 * (k : Int) + 1) = 4 * (k : Int) + 1 := IntWalk.i64_in _ ⟨by omega, by omega⟩
   have s2 : IntKind.i64.wrap (4 * (k : Int) + 2) = 4 * (k : Int) + 2 := IntWalk.i64_in _ ⟨by omega, by omega⟩
   have s3 : IntKind.i64.wrap (4 * (k : Int) + 3) = 4 * (k : Int) + 3 := IntWalk.i64_in _ ⟨by omega, by omega⟩
   have p0 : 0 ≤ 4 * (k : Int) := by omega
   have p1 : 0 ≤ 4 * (k : Int) + 1 := by omega
   have p2 : 0 ≤ 4 * (k : Int) + 2 := by omega
   have p3 : 0 ≤ 4 * (k : Int) + 3 := by omega
   have l0 : 4 * (k : Int) < (bs.length : Int) := by omega
   have l1 : 4 * (k : Int) + 1 < (bs.length : Int) := by omega
   have l2 : 4 * (k : Int) + 2 < (bs.length : Int) := by omega
   have l3 : 4 * (k : Int) + 3 < (bs.length : Int) := by omega
   have l4 : (k : Int) < 64 := by omega
   have t0 : (4 * (k : Int)).toNat = 4 * k := by omega
   have t1 : (4 * (k : Int) + 1).toNat = 4 * k + 1 := by omega
   have t2 : (4 * (k : Int) + 2).toNat = 4 * k + 2 := by omega
   have t3 : (4 * (k : Int) + 3).toNat = 4 * k + 3 := by omega
   clear hL
   go_wp2
   go_region
   go_wp2
   go_roundw
   case rel =>
    refine ⟨k + 1, by omega, by go_num, ⟨?_⟩, ⟨HB.out.drew.setCell (Nat.le_refl _) _⟩⟩
    have hs := blk_set (blk_drew HG.out) k (.int .u32 (be32 bs k))
    rw [arrU_set] at hs
    rw [show wAt bs (k + 1) = (wAt bs k).set k (be32 bs k) from by simp [wAt, hlt]]
    exact hs
   case measure => simp [intOf]; omega
  ·obtain rfl : k = 16 := by omega
   have hb11 : decide (((16 : Nat) : Int) < 16) = false := by decide
   obtain ⟨wo, rfl⟩ : ∃ wo : World, wo = wr := ⟨_, rfl⟩
   go_wp2
   go_loopw [5] (fun i W => ∃ k : Nat, 16 ≤ k ∧ k ≤ 64 ∧ i = .int .i64 k ∧ Aside0 (W.heap[w.heap.size]? = some (.cells (arrU (wAt bs k)) 191 (0, 0))) ∧ Aside0 (Below w.heap.size w W)) (fun i _ => 64 - (intOf i).toNat)
   case atStart => exact ⟨16, by omega, by omega, rfl, HG, HB⟩
   case round =>
    clear hk hlt hb11 HG HB
    obtain ⟨k, hk1, hk2, rfl, HG, HB⟩ := hrel
    by_cases hlt : k < 64
    ·have hb50 : decide ((k : Int) < 64) = true := decide_eq_true (by omega)
     have cc : ∀ j : Nat, j < 64 → wr.cell? ⟨w.heap.size, j, none⟩ = some (.int .u32 ((wAt bs k).getD j 0)) := fun j hj => (blk_cell HG.out j).trans (arrU_get (by rw [wAt_length]; exact hj))
     obtain ⟨a16, g16⟩ : ∃ a, (wAt bs k).getD (k - 16) 0 = a := ⟨_, rfl⟩
     obtain ⟨a15, g15⟩ : ∃ a, (wAt bs k).getD (k - 15) 0 = a := ⟨_, rfl⟩
     obtain ⟨a7, g7⟩ : ∃ a, (wAt bs k).getD (k - 7) 0 = a := ⟨_, rfl⟩
     obtain ⟨a2, g2⟩ : ∃ a, (wAt bs k).getD (k - 2) 0 = a := ⟨_, rfl⟩
     obtain ⟨a0, g0⟩ : ∃ a, (wAt bs k).getD k 0 = a := ⟨_, rfl⟩
     have c16 := cc (k - 16) (by omega)
     have c15 := cc (k - 15) (by omega)
     have c7 := cc (k - 7) (by omega)
     have c2 := cc (k - 2) (by omega)
     have c0 := cc k hlt
     rw [g16] at c16
     rw [g15] at c15
     rw [g7] at c7
     rw [g2] at c2
     rw [g0] at c0
     have G := Aside0.mk (show wAt bs (k + 1) = (wAt bs k).set k (wMix a16 a15 a7 a2) from by simp only [wAt]; rw [if_neg (by omega), g16, g15, g7, g2])
     clear cc g16 g15 g7 g2 g0
     have hf0 := blk_frozen HG.out k
     have s16 : IntKind.i64.wrap ((k : Int) - 16) = (k : Int) - 16 := IntWalk.i64_in _ ⟨by omega, by omega⟩
     have s15 : IntKind.i64.wrap ((k : Int) - 15) = (k : Int) - 15 := IntWalk.i64_in _ ⟨by omega, by omega⟩
     have s7 : IntKind.i64.wrap ((k : Int) - 7) = (k : Int) - 7 := IntWalk.i64_in _ ⟨by omega, by omega⟩
     have s2 : IntKind.i64.wrap ((k : Int) - 2) = (k : Int) - 2 := IntWalk.i64_in _ ⟨by omega, by omega⟩
     have p16 : 0 ≤ (k : Int) - 16 := by omega
     have p15 : 0 ≤ (k : Int) - 15 := by omega
     have p7 : 0 ≤ (k : Int) - 7 := by omega
     have p2 : 0 ≤ (k : Int) - 2 := by omega
     have q16 : 16 ≤ (k : Int) := by omega
     have q15 : 15 ≤ (k : Int) := by omega
     have q7 : 7 ≤ (k : Int) := by omega
     have q2 : 2 ≤ (k : Int) := by omega
     have l16 : (k : Int) - 16 < 64 := by omega
     have l15 : (k : Int) - 15 < 64 := by omega
     have l7 : (k : Int) - 7 < 64 := by omega
     have l2 : (k : Int) - 2 < 64 := by omega
     have l0 : (k : Int) < 64 := by omega
     have t16 : ((k : Int) - 16).toNat = k - 16 := by omega
     have t15 : ((k : Int) - 15).toNat = k - 15 := by omega
     have t7 : ((k : Int) - 7).toNat = k - 7 := by omega
     have t2 : ((k : Int) - 2).toNat = k - 2 := by omega
     go_wp2
     go_region
     go_wp2_with (first | (go_at_call 180; (first | (with_reducible refine (bits_RotateLeft32.calls _ _ _ _ (rot7 _)).mono ?_) | (with_reducible refine (bits_RotateLeft32.calls _ _ _ _ (rot18 _)).mono ?_) | (with_reducible refine (bits_RotateLeft32.calls _ _ _ _ (rot17 _)).mono ?_) | (with_reducible refine (bits_RotateLeft32.calls _ _ _ _ (rot19 _)).mono ?_)); rintro e w' ⟨rfl, ⟨nd, rfl⟩⟩))
     go_region
     go_wp2
     go_roundw
     case rel =>
      (repeat apply Exists.intro)
      exact ⟨⟨k + 1, by omega, by omega, by go_num, ⟨by rw [G.out, ← arrU_set]; refine blk_set ?_ k _; exact HG.out⟩, ⟨by refine Below.setCell (p := ⟨w.heap.size, k, none⟩) ?_ (Nat.le_refl _) _; exact pw_below_drewN HB.out _⟩⟩, rfl⟩
     case measure => simp [intOf]; omega
    ·obtain rfl : k = 64 := by omega
     have hb50 : decide (((64 : Nat) : Int) < 64) = false := by decide
     go_wp2
     go_ret
     exact ⟨_, rfl, Nat.le_refl _, HG.out, HB.out⟩
end Go.Proofs.Ytcogimnpffnanaa.Q
end
section
/- impl.turnBlock: the eight words of a digest, in their place, turned by a block of 64 bytes. -/
namespace Go.Proofs.Ytcogimnpffnanaa.Q
open Go.RowKit Go.Proofs.YtcogimnpffnanaaW.PrintWords Go.Proofs.YtcogimnpffnanaaW.PrintLast Go.Proofs.YtcogimnpffnanaaW.PrintMore
set_option linter.unusedVariables false
set_option linter.unusedSimpArgs false
def tS1 (e : Int) : Int := Go.bits .xor .u32 (Go.bits .xor .u32 (rotr e 6) (rotr e 11)) (rotr e 25)
def tS0 (a : Int) : Int := Go.bits .xor .u32 (Go.bits .xor .u32 (rotr a 2) (rotr a 13)) (rotr a 22)
def tT1 (e f g h kc wc : Int) : Int := h + tS1 e + Go.bits .xor .u32 (Go.bits .and .u32 e f) (Go.bits .and .u32 (Go.bits .xor .u32 IntKind.u32.max e) g) + kc + wc
def tMaj (a b c : Int) : Int := Go.bits .xor .u32 (Go.bits .xor .u32 (Go.bits .and .u32 a b) (Go.bits .and .u32 a c)) (Go.bits .and .u32 b c)
def turnStep (kc wc : Int) : List Int → List Int
 | [a, b, c, d, e, f, g, h] => [(tT1 e f g h kc wc + tS0 a + tMaj a b c) % 4294967296, a, b, c, (d + tT1 e f g h kc wc) % 4294967296, e, f, g]
 | l => l
def vAt (ks ws hs : List Int) : Nat → List Int
 | 0 => hs
 | i + 1 => turnStep (ks.getD i 0) (ws.getD i 0) (vAt ks ws hs i)
theorem vAt_eight (ks ws hs : List Int) (h : hs.length = 8) (k : Nat) : (vAt ks ws hs k).length = 8 := by
 induction k with
 | zero => exact h
 | succ k ih =>
  simp only [vAt]
  match vAt ks ws hs k, ih with
  | [a, b, c, d, e, f, g, h], _ => rfl
theorem eight {l : List Int} (h : l.length = 8) : ∃ v0 v1 v2 v3 v4 v5 v6 v7, l = [v0, v1, v2, v3, v4, v5, v6, v7] := by
 match l, h with
 | [h0, h1, h2, h3, h4, h5, h6, h7], _ => exact ⟨h0, h1, h2, h3, h4, h5, h6, h7, rfl⟩
theorem eight_set {W : World} {gv : Nat} {T : TypeId} {v0 v1 v2 v3 v4 v5 v6 v7 : Int} (n0 n1 n2 n3 n4 n5 n6 n7 : Int) (h : W.heap[gv]? = some (.cells (arrU [v0, v1, v2, v3, v4, v5, v6, v7]) T (0, 0))) :
  ((((((((W.setCell ⟨gv, 0, none⟩ (.int .u32 n0)).setCell ⟨gv, 1, none⟩ (.int .u32 n1)).setCell ⟨gv, 2, none⟩ (.int .u32 n2)).setCell ⟨gv, 3, none⟩ (.int .u32 n3)).setCell ⟨gv, 4, none⟩ (.int .u32 n4)).setCell ⟨gv, 5, none⟩ (.int .u32 n5)).setCell ⟨gv, 6, none⟩ (.int .u32 n6)).setCell ⟨gv, 7, none⟩ (.int .u32 n7)).heap[gv]? = some (.cells (arrU [n0, n1, n2, n3, n4, n5, n6, n7]) T (0, 0)) := by
 have := blk_set (blk_set (blk_set (blk_set (blk_set (blk_set (blk_set (blk_set h 0 (.int .u32 n0)) 1 (.int .u32 n1)) 2 (.int .u32 n2)) 3 (.int .u32 n3)) 4 (.int .u32 n4)) 5 (.int .u32 n5)) 6 (.int .u32 n6)) 7 (.int .u32 n7)
 simp only [arrU_set] at this
 exact this
theorem eight_below {B : Nat} {w W : World} (h : Below B w W) {gv : Nat} (hg : B ≤ gv) (u0 u1 u2 u3 u4 u5 u6 u7 : Value) :
  Below B w ((((((((W.setCell ⟨gv, 0, none⟩ u0).setCell ⟨gv, 1, none⟩ u1).setCell ⟨gv, 2, none⟩ u2).setCell ⟨gv, 3, none⟩ u3).setCell ⟨gv, 4, none⟩ u4).setCell ⟨gv, 5, none⟩ u5).setCell ⟨gv, 6, none⟩ u6).setCell ⟨gv, 7, none⟩ u7) :=
 (((((((h.setCell (p := ⟨gv, 0, none⟩) hg _).setCell (p := ⟨gv, 1, none⟩) hg _).setCell (p := ⟨gv, 2, none⟩) hg _).setCell (p := ⟨gv, 3, none⟩) hg _).setCell (p := ⟨gv, 4, none⟩) hg _).setCell (p := ⟨gv, 5, none⟩) hg _).setCell (p := ⟨gv, 6, none⟩) hg _).setCell (p := ⟨gv, 7, none⟩) hg _
theorem eight_far {W : World} {g gv : Nat} {t : TypeId} {cs : Array Value} (h : W.heap[g]? = some (.cells cs t (0, 0))) (hne : g ≠ gv) (u0 u1 u2 u3 u4 u5 u6 u7 : Value) :
  ((((((((W.setCell ⟨gv, 0, none⟩ u0).setCell ⟨gv, 1, none⟩ u1).setCell ⟨gv, 2, none⟩ u2).setCell ⟨gv, 3, none⟩ u3).setCell ⟨gv, 4, none⟩ u4).setCell ⟨gv, 5, none⟩ u5).setCell ⟨gv, 6, none⟩ u6).setCell ⟨gv, 7, none⟩ u7).heap[g]? = some (.cells cs t (0, 0)) :=
 blk_far (blk_far (blk_far (blk_far (blk_far (blk_far (blk_far (blk_far h hne _) hne _) hne _) hne _) hne _) hne _) hne _) hne _
def addAt (hs vs : List Int) : Nat → List Int
 | 0 => hs
 | i + 1 => (addAt hs vs i).set i (((addAt hs vs i).getD i 0 + vs.getD i 0) % 4294967296)
theorem addAt_length (hs vs : List Int) (i : Nat) : (addAt hs vs i).length = hs.length := by
 induction i with
 | zero => rfl
 | succ i ih => simp [addAt, ih]
def turned (ks bs hs : List Int) : List Int := addAt hs (vAt ks (wAt bs 64) hs 64) 8
set_option maxHeartbeats 4000000 in
set_option maxRecDepth 100000 in
theorem turnBlock_calls (gh gk : Nat) (A : Option Addr) (c : Nat) (bs hs ks : List Int) (w : World) (hr : Kd.C (Kd.int .u8) w A bs.length bs) (hl : bs.length = 64) (hh : hs.length = 8) (hk : ks.length = 64)
  (hgh : w.heap[gh]? = some (.cells (arrU hs) 163 (0, 0))) (hgk : w.heap[gk]? = some (.cells (arrU ks) 191 (0, 0))) :
  Calls Try.prog 153 #[.pointer (some ⟨gh, 0, none⟩), .slice A bs.length c, .pointer (some ⟨gk, 0, none⟩)] w fun e w' => e = .returned (.tuple #[]) ∧ w.grownBy w' (some gh) ∧ w'.heap[gh]? = some (.cells (arrU (turned ks bs hs)) 163 (0, 0)) := by
 have HL := Aside0.mk hl
 have HK := Aside0.mk hk
 have HGH := Aside0.mk hgh
 have HGK := Aside0.mk hgk
 have HR := Aside0.mk hr
 obtain ⟨h0, h1, h2, h3, h4, h5, h6, h7, rfl⟩ := eight hh
 clear hr hl hh hk hgh hgk
 go_enter Try.func153, Try.ntmps153
 go_wp2_with (go_at_call 179; (with_reducible refine (wordsOf_calls _ _ bs _ HR.out HL.out).mono ?_); rintro e w1 ⟨gw, rfl, hw1, hw2, hb⟩; have HW1 := Aside0.mk hw1; have HW2 := Aside0.mk hw2; have HB := Aside0.mk hb; have HGH1 := Aside0.mk (blk_below HGH.out hb); have HGK1 := Aside0.mk (blk_below HGK.out hb); clear hw1 hw2 hb; have q0 := blk_cell HGH1.out 0; have q1 := blk_cell HGH1.out 1; have q2 := blk_cell HGH1.out 2; have q3 := blk_cell HGH1.out 3; have q4 := blk_cell HGH1.out 4; have q5 := blk_cell HGH1.out 5; have q6 := blk_cell HGH1.out 6; have q7 := blk_cell HGH1.out 7; simp only [arrU, nums, List.map_cons, List.map_nil, List.getElem?_toArray, List.getElem?_cons_zero, List.getElem?_cons_succ] at q0 q1 q2 q3 q4 q5 q6 q7)
 clear q0 q1 q2 q3 q4 q5 q6 q7
 have HGH2 := Aside0.mk (blk_alloc HGH1.out (.cells #[.int .u32 h0, .int .u32 h1, .int .u32 h2, .int .u32 h3, .int .u32 h4, .int .u32 h5, .int .u32 h6, .int .u32 h7] 163))
 have HGK2 := Aside0.mk (blk_alloc HGK1.out (.cells #[.int .u32 h0, .int .u32 h1, .int .u32 h2, .int .u32 h3, .int .u32 h4, .int .u32 h5, .int .u32 h6, .int .u32 h7] 163))
 have HW22 := Aside0.mk (blk_alloc HW2.out (.cells #[.int .u32 h0, .int .u32 h1, .int .u32 h2, .int .u32 h3, .int .u32 h4, .int .u32 h5, .int .u32 h6, .int .u32 h7] 163))
 have HN := Aside0.mk (blk_new w1 (.cells #[.int .u32 h0, .int .u32 h1, .int .u32 h2, .int .u32 h3, .int .u32 h4, .int .u32 h5, .int .u32 h6, .int .u32 h7] 163))
 have HB2 := Aside0.mk (HB.out.alloc HB.out.size (.cells #[.int .u32 h0, .int .u32 h1, .int .u32 h2, .int .u32 h3, .int .u32 h4, .int .u32 h5, .int .u32 h6, .int .u32 h7] 163))
 obtain ⟨gv, hgv⟩ : ∃ gv, w1.heap.size = gv := ⟨_, rfl⟩
 rw [hgv] at HN ⊢
 have HV := Aside0.mk (show w.heap.size ≤ gv from by rw [← hgv]; exact HB.out.size)
 clear hgv
 generalize w1.alloc (.cells #[.int .u32 h0, .int .u32 h1, .int .u32 h2, .int .u32 h3, .int .u32 h4, .int .u32 h5, .int .u32 h6, .int .u32 h7] 163) = w2 at HGH2 HGK2 HW22 HN HB2 ⊢
 clear HGH1 HGK1 HW2 HB
 go_loopw [22] (fun i W => ∃ k : Nat, k ≤ 64 ∧ i = .int .i64 k ∧ Aside0 (W.heap[gv]? = some (.cells (arrU (vAt ks (wAt bs 64) [h0, h1, h2, h3, h4, h5, h6, h7] k)) 163 (0, 0))) ∧ Aside0 (Below w.heap.size w W) ∧ Aside0 (W.heap[gw]? = some (.cells (arrU (wAt bs 64)) 191 (0, 0)))) (fun i _ => 64 - (intOf i).toNat)
 case atStart => exact ⟨0, by omega, rfl, HN, HB2, HW22⟩
 case round =>
  clear HN HB2 HW22
  obtain ⟨k, hk, rfl, HN, HB, HW⟩ := hrel
  by_cases hlt : k < 64
  ·obtain ⟨v0, v1, v2, v3, v4, v5, v6, v7, hv⟩ : ∃ v0 v1 v2 v3 v4 v5 v6 v7, vAt ks (wAt bs 64) [h0, h1, h2, h3, h4, h5, h6, h7] k = [v0, v1, v2, v3, v4, v5, v6, v7] := eight (vAt_eight _ _ _ rfl k)
   have HN2 := HN.out
   rw [hv] at HN2
   have HNN := Aside0.mk HN2
   have q0 := blk_cell HN2 0
   have q1 := blk_cell HN2 1
   have q2 := blk_cell HN2 2
   have q3 := blk_cell HN2 3
   have q4 := blk_cell HN2 4
   have q5 := blk_cell HN2 5
   have q6 := blk_cell HN2 6
   have q7 := blk_cell HN2 7
   simp only [arrU, nums, List.map_cons, List.map_nil, List.getElem?_toArray, List.getElem?_cons_zero, List.getElem?_cons_succ] at q0 q1 q2 q3 q4 q5 q6 q7
   have f0 := blk_frozen HN2 0
   have f1 := blk_frozen HN2 1
   have f2 := blk_frozen HN2 2
   have f3 := blk_frozen HN2 3
   have f4 := blk_frozen HN2 4
   have f5 := blk_frozen HN2 5
   have f6 := blk_frozen HN2 6
   have f7 := blk_frozen HN2 7
   clear HN2
   have hkc : wr.cell? ⟨gk, k, none⟩ = some (.int .u32 (ks.getD k 0)) := (blk_cell ((HB.out.block gk (blk_lt HGK.out)).trans HGK.out) k).trans (arrU_get (by rw [HK.out]; omega))
   have hwc : wr.cell? ⟨gw, k, none⟩ = some (.int .u32 ((wAt bs 64).getD k 0)) := (blk_cell HW.out k).trans (arrU_get (by rw [wAt_length]; omega))
   obtain ⟨kc, gkc⟩ : ∃ a, ks.getD k 0 = a := ⟨_, rfl⟩
   obtain ⟨wc, gwc⟩ : ∃ a, (wAt bs 64).getD k 0 = a := ⟨_, rfl⟩
   rw [gkc] at hkc
   rw [gwc] at hwc
   have HV1 := Aside0.mk (show vAt ks (wAt bs 64) [h0, h1, h2, h3, h4, h5, h6, h7] (k + 1) = turnStep kc wc [v0, v1, v2, v3, v4, v5, v6, v7] from by rw [← hv, ← gkc, ← gwc]; rfl)
   clear hv gkc gwc
   have b22 : decide ((k : Int) < 64) = true := decide_eq_true (by omega)
   have l64 : (k : Int) < 64 := by omega
   go_wp2
   go_region
   go_wp2_with (first | (go_at_call 180; (first | (with_reducible refine (bits_RotateLeft32.calls _ _ _ _ (rot6 _)).mono ?_) | (with_reducible refine (bits_RotateLeft32.calls _ _ _ _ (rot11 _)).mono ?_) | (with_reducible refine (bits_RotateLeft32.calls _ _ _ _ (rot25 _)).mono ?_)); rintro e w' ⟨rfl, ⟨nd, rfl⟩⟩))
   go_region
   go_wp2_with (first | (go_at_call 180; (first | (with_reducible refine (bits_RotateLeft32.calls _ _ _ _ (rot2 _)).mono ?_) | (with_reducible refine (bits_RotateLeft32.calls _ _ _ _ (rot13 _)).mono ?_) | (with_reducible refine (bits_RotateLeft32.calls _ _ _ _ (rot22 _)).mono ?_)); rintro e w' ⟨rfl, ⟨nd, rfl⟩⟩))
   go_roundw
   case rel =>
    refine ⟨k + 1, by omega, by go_num, ⟨?_⟩, ⟨?_⟩, ⟨?_⟩⟩
    ·rw [HV1.out]
     exact eight_set _ _ _ _ _ _ _ _ (blk_drewN HNN.out _)
    ·exact eight_below (pw_below_drewN HB.out _) HV.out _ _ _ _ _ _ _ _
    ·exact eight_far (blk_drewN HW.out _) (blk_ne HW.out HNN.out (by decide)) _ _ _ _ _ _ _ _
   case measure => simp [intOf]; omega
  ·obtain rfl : k = 64 := by omega
   have b22 : decide (((64 : Nat) : Int) < 64) = false := by decide
   obtain ⟨wo, rfl⟩ : ∃ wo : World, wo = wr := ⟨_, rfl⟩
   go_wp2
   generalize hvv : vAt ks (wAt bs 64) [h0, h1, h2, h3, h4, h5, h6, h7] 64 = vs at HN
   have hvl : vs.length = 8 := by rw [← hvv]; exact vAt_eight _ _ _ rfl _
   have HVV := Aside0.mk hvv
   have HVL := Aside0.mk hvl
   clear hvv hvl
   go_loopw [109] (fun i W => ∃ k : Nat, k ≤ 8 ∧ i = .int .i64 k ∧ Aside0 (W.heap[gh]? = some (.cells (arrU (addAt [h0, h1, h2, h3, h4, h5, h6, h7] vs k)) 163 (0, 0))) ∧ Aside0 (W.heap[gv]? = some (.cells (arrU vs) 163 (0, 0))) ∧ Aside0 (w.grownBy W (some gh))) (fun i _ => 8 - (intOf i).toNat)
   case atStart => exact ⟨0, by omega, rfl, ⟨(HB.out.block gh (blk_lt HGH.out)).trans HGH.out⟩, HN, ⟨grown_of_below HB.out _⟩⟩
   case round =>
    clear hlt hk b22 HN HB HW
    obtain ⟨k, hk, rfl, HH, HN, HB⟩ := hrel
    by_cases hlt : k < 8
    ·have hne : gh ≠ gv := by have := blk_lt HGH.out; have := HV.out; omega
     have HNE := Aside0.mk hne
     have ch : wr.cell? ⟨gh, k, none⟩ = some (.int .u32 ((addAt [h0, h1, h2, h3, h4, h5, h6, h7] vs k).getD k 0)) := (blk_cell HH.out k).trans (arrU_get (by rw [addAt_length]; exact hlt))
     have cv : wr.cell? ⟨gv, k, none⟩ = some (.int .u32 (vs.getD k 0)) := (blk_cell HN.out k).trans (arrU_get (by rw [HVL.out]; exact hlt))
     obtain ⟨a, ga⟩ : ∃ a, (addAt [h0, h1, h2, h3, h4, h5, h6, h7] vs k).getD k 0 = a := ⟨_, rfl⟩
     obtain ⟨b, gb⟩ : ∃ a, vs.getD k 0 = a := ⟨_, rfl⟩
     rw [ga] at ch
     rw [gb] at cv
     have G := Aside0.mk (show addAt [h0, h1, h2, h3, h4, h5, h6, h7] vs (k + 1) = (addAt [h0, h1, h2, h3, h4, h5, h6, h7] vs k).set k ((a + b) % 4294967296) from by rw [← ga, ← gb]; rfl)
     have fh := blk_frozen HH.out k
     have b110 : decide ((k : Int) < 8) = true := decide_eq_true (by omega)
     have l8 : (k : Int) < 8 := by omega
     clear ga gb hne
     go_wp2
     go_region
     go_wp2
     go_roundw
     case rel =>
      refine ⟨k + 1, by omega, by go_num, ⟨?_⟩, ⟨?_⟩, ⟨?_⟩⟩
      ·rw [G.out, ← arrU_set]
       exact blk_set (blk_drew HH.out) k _
      ·exact blk_far (blk_drew HN.out) HNE.out.symm _
      ·exact ⟨HB.out.os, HB.out.tape, HB.out.output, by simpa [World.setCell] using HB.out.size, fun i hi hn => (Below.heap_setCell _ _ _ _ (fun e => hn (by rw [e]))).trans (HB.out.block i hi hn)⟩
     case measure => simp [intOf]; omega
    ·obtain rfl : k = 8 := by omega
     have b110 : decide (((8 : Nat) : Int) < 8) = false := by decide
     go_wp2
     refine bodyPost_end (results_none rfl _ _ _) rfl ?_
     refine ⟨rfl, HB.out, ?_⟩
     unfold turned
     rw [HVV.out]
     exact HH.out
end Go.Proofs.Ytcogimnpffnanaa.Q
end
section
/- slices.Chunk of bytes, 64 at a time, over a row whose length is a multiple of 64: the iterator's contract; a round may write one block of its caller's. -/
namespace Go.Proofs.Ytcogimnpffnanaa.Q
open Go.RowKit Go.Shelf Go.Proofs.YtcogimnpffnanaaW.PrintWords Go.Proofs.YtcogimnpffnanaaW.PrintLast Go.Proofs.YtcogimnpffnanaaW.PrintMore
set_option linter.unusedVariables false
set_option linter.unusedSimpArgs false
structure BelowBut (B g : Nat) (w w' : World) : Prop where
 os : w'.os = w.os
 tape : w'.tape = w.tape
 output : w'.output = w.output
 size : w.heap.size ≤ w'.heap.size
 block : ∀ k, k < B → k ≠ g → w'.heap[k]? = w.heap[k]?
theorem BelowBut.refl (B g : Nat) (w : World) : BelowBut B g w w := ⟨rfl, rfl, rfl, Nat.le_refl _, fun _ _ _ => rfl⟩
theorem BelowBut.trans {B g : Nat} {a b c : World} (h : BelowBut B g a b) (k : BelowBut B g b c) : BelowBut B g a c :=
 ⟨k.os.trans h.os, k.tape.trans h.tape, k.output.trans h.output, Nat.le_trans h.size k.size, fun i hi hn => (k.block i hi hn).trans (h.block i hi hn)⟩
theorem BelowBut.drew {B g : Nat} {a w : World} (h : BelowBut B g a w) : BelowBut B g a w.drew := ⟨h.os, h.tape, h.output, h.size, h.block⟩
theorem BelowBut.grown {B g : Nat} {w w' : World} (h : w.grownBy w' (some g)) (hB : B ≤ w.heap.size) : BelowBut B g w w' :=
 ⟨h.os, h.tape, h.output, h.size, fun k hk hn => h.block k (by omega) (fun e => hn (Option.some.inj e))⟩
theorem BelowBut.putObj {n₀ g : Nat} {w : World} (hn : n₀ ≤ w.heap.size) (W : World) (l : Nat) (o o' : Obj) (hl : w.heap.size ≤ l) (h : W.heap[l]? = some o) (_ : o.isCells = false) (_ : o.isWalk = false) : BelowBut n₀ g W (W.putObj l o') := by
 have hg := grownBy_putObj' W l o'
 exact ⟨hg.os, hg.tape, hg.output, hg.size, fun k hk _ => hg.block k (by have := (Array.getElem?_eq_some_iff.1 h).1; omega) (fun e => by cases e; omega)⟩
theorem BelowBut.cell {B g : Nat} {w w' : World} (h : BelowBut B g w w') {p : Addr} (hp : p.block < B) (hn : p.block ≠ g) : w'.cell? p = w.cell? p := World.cell?_of_block (w := w) (h.block p.block hp hn)
def starts (k : Nat) : List Nat := (List.range k).map (64 * ·)
theorem starts_succ (k : Nat) : starts (k + 1) = starts k ++ [64 * k] := by simp [starts, List.range_succ]
theorem starts_length (k : Nat) : (starts k).length = k := by simp [starts]
attribute [local go_sem] Oper.semAt_some
set_option maxRecDepth 100000 in
set_option maxHeartbeats 2000000 in
theorem chunk1_in (F : Fence) (n : Nat) (hF : F.fn 178) (hro : F.round = none) (hn : 1 ≤ n) (l Bs Bn n₀ gh b off cap m L : Nat) (hL : L = 64 * m) (hcap : L ≤ cap) (hreach : L ≤ 140737488355328)
  (hb : b < n₀) (hbs : Bs < n₀) (hbn : Bn < n₀) (hs1 : Bs ≠ gh) (hs2 : Bn ≠ gh) (J Jx : List Nat → World → Prop)
  (hY : ∀ pre x W, J pre W → pre.length < m → x + 64 ≤ L → YieldAt F (n - 1) Try.prog l #[.slice (some ⟨b, off + x, none⟩) 64 64] W fun e W' =>
   (e = .returned (.bool true) ∧ J (pre ++ [x]) W' ∧ BelowBut n₀ gh W W') ∨ (e = .returned (.bool false) ∧ Jx (pre ++ [x]) W'))
  (W : World) (hJ : AbidesFrom W.heap.size J) (hBs : W.cell? ⟨Bs, 0, none⟩ = some (.slice (some ⟨b, off, none⟩) L cap)) (hBn : W.cell? ⟨Bn, 0, none⟩ = some (.int .i64 64)) (h0 : J [] W) :
  CallsIn F n Try.prog 178 #[.func (.yield l) #[] #[], .pointer (some ⟨Bs, 0, none⟩), .pointer (some ⟨Bn, 0, none⟩)] W fun e W' => (∃ v, e = .returned v) ∧
   ((∃ ys, ys = starts m ∧ J ys W') ∨ (∃ pre, True ∧ Jx pre W')) := by
 refine callsIn_of_wp Try.func178 rfl hF ?_ hro
 have HL := Aside0.mk hL
 clear hL
 simp only [Try.ntmps178, List.size_toArray, List.length_cons, List.length_nil, Nat.reduceAdd, Nat.reduceSub, Array.replicate_succ, Array.replicate_zero, List.push_toArray, List.append_toArray, List.nil_append, List.cons_append]
 gi_wp2
 gi_loopw [4] (fun i wr => ∃ k i0 : Nat, k ≤ m ∧ Aside0 (i0 = 64 * k) ∧ i = .int .i64 i0 ∧ J (starts k) wr ∧ BelowBut n₀ gh W wr)
  (fun i _ => L - (intOf i).toNat)
 case atStart => exact ⟨0, 0, Nat.zero_le _, ⟨rfl⟩, rfl, h0, BelowBut.refl _ _ _⟩
 case round =>
  obtain ⟨k, i, hk, HI, rfl, hJs, hnx⟩ := hrel
  have c1 : wr.cell? ⟨Bs, 0, none⟩ = some (.slice (some ⟨b, off, none⟩) L cap) := (hnx.cell (p := ⟨Bs, 0, none⟩) hbs hs1).trans hBs
  have c2 : wr.cell? ⟨Bn, 0, none⟩ = some (.int .i64 64) := (hnx.cell (p := ⟨Bn, 0, none⟩) hbn hs2).trans hBn
  have hi := HI.out
  have hl := HL.out
  by_cases hlt : i < L
  ·have hdrew : J (starts k) wr.drew := hJ _ _ _ none hJs ⟨rfl, rfl, rfl, Nat.le_refl _, fun _ _ _ => rfl⟩ (fun r e => by cases e)
   obtain ⟨fn, tmps, assign, body, hy, hR⟩ := hY _ i wr.drew hdrew (by rw [starts_length]; omega) (by omega)
   have hle : i + 64 ≤ L := by omega
   clear hi hl
   have b1 := decide_eq_true hlt
   gi_wp2
   gi_region
   all_goals
    gi_wp2
    refine hR.mono ?_
    rintro e W3 (⟨rfl, hJ3, hk3⟩ | ⟨rfl, hJx3⟩)
    ·have c3 : W3.cell? ⟨Bn, 0, none⟩ = some (.int .i64 64) := (hk3.cell (p := ⟨Bn, 0, none⟩) hbn hs2).trans c2
     gi_wp2
     go_roundw
     case rel => exact ⟨k + 1, i + 64, by have h1 := HI.out; have h2 := HL.out; omega, ⟨by have h1 := HI.out; omega⟩, by go_num, by rw [starts_succ, ← HI.out]; exact hJ3, hnx.drew.trans hk3⟩
     case measure => simp [intOf]; omega
    ·gi_wp2
     refine bodyPost_ret (results_none rfl _ _ _) rfl ?_
     exact ⟨⟨_, rfl⟩, .inr ⟨_, trivial, hJx3⟩⟩
  ·have b1 := decide_eq_false hlt
   have hkm : k = m := by omega
   rw [hkm] at hJs
   clear hi hl hkm
   gi_wp2
   go_end0
   exact ⟨⟨_, rfl⟩, .inl ⟨_, rfl, hJs⟩⟩
theorem chunk_stops (F : Fence) (n : Nat) (hF : F.fn 178) (hro : F.round = none) (hn : 1 ≤ n) (Bs Bn n₀ gh b off cap m L : Nat) (hL : L = 64 * m) (hcap : L ≤ cap) (hreach : L ≤ 140737488355328)
  (hb : b < n₀) (hbs : Bs < n₀) (hbn : Bn < n₀) (hs1 : Bs ≠ gh) (hs2 : Bn ≠ gh) (w : World) (hn₀ : n₀ ≤ w.heap.size)
  (hBs : w.cell? ⟨Bs, 0, none⟩ = some (.slice (some ⟨b, off, none⟩) L cap)) (hBn : w.cell? ⟨Bn, 0, none⟩ = some (.int .i64 64)) :
  SeqStopsK F n Try.prog 178 #[.pointer (some ⟨Bs, 0, none⟩), .pointer (some ⟨Bn, 0, none⟩)] (fun x : { x : Nat // x + 64 ≤ L } => #[Value.slice (some ⟨b, off + x.1, none⟩) 64 64]) (BelowBut n₀ gh)
   (fun ys => ys.map (·.1) = starts m) (fun _ => True) m w := fun l J Jx W hW hJ _ hY h0 => by
 have hBs' := (hW.cell (p := ⟨Bs, 0, none⟩) (Nat.lt_of_lt_of_le hbs hn₀)).trans hBs
 have hBn' := (hW.cell (p := ⟨Bn, 0, none⟩) (Nat.lt_of_lt_of_le hbn hn₀)).trans hBn
 refine (chunk1_in F n hF hro hn l Bs Bn n₀ gh b off cap m L hL hcap hreach hb hbs hbn hs1 hs2 (fun pre W => ∃ q : List { x : Nat // x + 64 ≤ L }, q.map (·.1) = pre ∧ J q W) (fun pre W => ∃ q : List { x : Nat // x + 64 ≤ L }, q.map (·.1) = pre ∧ Jx q W) ?_ W ?_ hBs' hBn' ⟨[], rfl, h0⟩).mono ?_
 ·rintro pre x W1 ⟨q, rfl, hq⟩ hlen hx
  obtain ⟨fn, tmps, assign, body, hy, hR⟩ := hY q ⟨x, hx⟩ W1 hq (by simpa using hlen)
  refine ⟨fn, tmps, assign, body, hy, hR.mono ?_⟩
  rintro e W' (⟨rfl, hJ1, hk⟩ | ⟨rfl, hJx⟩)
  ·exact .inl ⟨rfl, ⟨_, by simp, hJ1⟩, hk⟩
  ·exact .inr ⟨rfl, _, by simp, hJx⟩
 ·rintro s A B row ⟨q, rfl, hq⟩ hg hr
  exact ⟨q, rfl, hJ q A B row hq hg hr⟩
 ·rintro e W' ⟨he, ⟨ys, rfl, q, hq, hj⟩ | ⟨pre, _, q, hq, hj⟩⟩
  ·exact ⟨he, .inl ⟨q, hq, hj⟩⟩
  ·exact ⟨he, .inr ⟨q, trivial, hj⟩⟩
set_option maxHeartbeats 1000000 in
set_option maxRecDepth 100000 in
theorem chunk_in (F : Fence) (n : Nat) (hF : F.fn 151) (hro : F.round = none) (a : Option Addr) (len cap : Nat) (w : World) :
  CallsIn F n Try.prog 151 #[.slice a len cap, .int .i64 64] w fun e w' => e = .returned (.func (.func 178) #[] #[.pointer (some ⟨w.heap.size, 0, none⟩), .pointer (some ⟨w.heap.size + 1, 0, none⟩)]) ∧ w' = (w.alloc (.cells #[.slice a len cap] 29)).alloc (.cells #[.int .i64 64] 3) := by
 refine callsIn_of_wp Try.func151 rfl hF ?_ hro
 simp only [Try.ntmps151, List.size_toArray, List.length_cons, List.length_nil, Nat.reduceAdd, Nat.reduceSub, Array.replicate_succ, Array.replicate_zero, List.push_toArray, List.append_toArray, List.nil_append, List.cons_append]
 gi_wp2
 go_ret
 exact ⟨rfl, rfl⟩
end Go.Proofs.Ytcogimnpffnanaa.Q
end
section
/- Plain words for the pure proofs: numbers that need no wrap, lists by their places, and answers that stand from some number of rounds on. -/
namespace Go.Proofs.Ytcogimnpffnanaa.B
open Go.RowKit Go.Proofs.YtcogimnpffnanaaW.PrintWords
theorem w64 {x : Int} (h0 : -9223372036854775808 ≤ x) (h1 : x ≤ 9223372036854775807) : wrap64 x = x := by
 unfold wrap64
 omega
theorem Ev.pos {α : Type} {c : Prop} [Decidable c] {g f : Nat → Option α} {r : α} (h : c) (k : Ev g r) : Ev (fun n => if c then g n else f n) r := Ev.congr (fun _ => if_pos h) k
theorem Ev.neg {α : Type} {c : Prop} [Decidable c] {g f : Nat → Option α} {r : α} (h : ¬ c) (k : Ev f r) : Ev (fun n => if c then g n else f n) r := Ev.congr (fun _ => if_neg h) k
theorem Ev.const {α : Type} {a : Option α} {r : α} (h : a = some r) : Ev (fun _ => a) r := ⟨0, fun _ _ => h⟩
theorem Ev.one {α : Type} {g : Nat → Option α} {a r : α} (h : Ev g a) (e : a = r) : Ev g r := e ▸ h
theorem rdOf_at {α : Type} {d : α} {l : List α} {i : Nat} {x : α} (h : l[i]? = some x) : rdOf d l (i : Int) = x := by
 unfold rdOf
 simp [List.getD_eq_getElem?_getD, h]
theorem rd_at {l : List Int} {i : Nat} {x : Int} (h : l[i]? = some x) : rd l (i : Int) = x := by
 unfold rd
 simp [List.getD_eq_getElem?_getD, h]
theorem bytes_ext {a b : ByteArray} (h : a.toList = b.toList) : a = b := by
 have hd : ∀ c : ByteArray, c.toList = c.data.toList := fun c => Go.Lib.toList_data c
 rw [hd, hd] at h
 cases a
 cases b
 simpa [Array.toList_inj] using h
theorem take_one {α : Type} {l : List α} {i : Nat} {x : α} (h : l[i]? = some x) : l.take (i + 1) = l.take i ++ [x] := by
 obtain ⟨hi, he⟩ := List.getElem?_eq_some_iff.1 h
 rw [List.take_succ_eq_append_getElem hi, he]
theorem drop_one {α : Type} {l : List α} {i : Nat} {x : α} (h : l[i]? = some x) : l.drop i = x :: l.drop (i + 1) := by
 obtain ⟨hi, he⟩ := List.getElem?_eq_some_iff.1 h
 rw [List.drop_eq_getElem_cons hi, he]
theorem set_take {α : Type} {l : List α} {i : Nat} (x : α) (hi : i < l.length) : (l.set i x).take (i + 1) = l.take i ++ [x] := by
 rw [List.take_succ_eq_append_getElem (by simpa using hi)]
 simp [List.take_set_of_le]
theorem get_some {α : Type} {l : List α} {i : Nat} (hi : i < l.length) : ∃ x, l[i]? = some x := ⟨l[i], List.getElem?_eq_getElem hi⟩
def total (l : List ByteArray) : Int := (l.map fun s => (s.size : Int)).sum
theorem total_nonneg (l : List ByteArray) : 0 ≤ total l := by
 unfold total
 induction l with
 | nil => simp
 | cons a l ih =>
  simp only [List.map_cons, List.sum_cons]
  omega
theorem total_cons (a : ByteArray) (l : List ByteArray) : total (a :: l) = a.size + total l := by simp [total]
theorem total_mem {l : List ByteArray} {s : ByteArray} (h : s ∈ l) : (s.size : Int) ≤ total l := by
 induction l with
 | nil => simp at h
 | cons a l ih =>
  rw [total_cons]
  have := total_nonneg l
  rcases List.mem_cons.1 h with rfl | h
  ·omega
  ·have := ih h
   omega
end Go.Proofs.Ytcogimnpffnanaa.B
end
section
/- slices.Clone of bytes and of texts: the same list in new memory (bounds: what append takes). -/
namespace Go.Proofs.Ytcogimnpffnanaa.Q
open Go.RowKit Go.Proofs.YtcogimnpffnanaaW.PrintWords Go.Proofs.YtcogimnpffnanaaW.PrintLast Go.Proofs.YtcogimnpffnanaaW.PrintMore
set_option linter.unusedVariables false
set_option linter.unusedSimpArgs false
def slices_Clone_byte_byte.f (l0 : List Int) : Option (List Int) := if l0.length ≤ 140737488355328 then some l0 else none
theorem slices_Clone_byte_byte.info : (Try.prog.info? 5).map (fun i => (i.zero, i.size, i.bytes)) = some (some (.int .u8 0), 1, 1) := by kernel_rfl
set_option maxHeartbeats 1000000 in
set_option maxRecDepth 100000 in
theorem slices_Clone_byte_byte.calls (A0 : Option Addr) (c0 : Nat) (l0 : List Int) (r : List Int) (w : World) (hr0 : Kd.C (Kd.int .u8) w A0 l0.length l0) (hc0 : l0.length ≤ c0) (h : slices_Clone_byte_byte.f l0 = some r) :
  Calls Try.prog 173 #[.slice A0 l0.length c0] w fun e w' => ∃ v0_ : Value, e = .returned (v0_) ∧ Kd.R (Kd.int .u8) 5 w' w.heap.size (fun _ => True) v0_ r ∧ Below w.heap.size w w' := by
 unfold slices_Clone_byte_byte.f at h
 by_cases hl : l0.length ≤ 140737488355328
 ·rw [if_pos hl] at h
  obtain rfl := Option.some.inj h
  have LM := Aside0.mk hl
  have HR0 := Aside0.mk hr0
  have HC0 := Aside0.mk hc0
  have hn := fun W : World => Lib.run_eql_slice_nil (P := Try.prog) W 29 5 A0 l0.length c0 0 0 Try.underlying29
  clear hl h hc0
  cases A0 with
  | none =>
   have h0 : l0 = [] := by
    rcases Nat.eq_zero_or_pos l0.length with hz | hz
    ·exact List.eq_nil_of_length_eq_zero hz
    ·obtain ⟨ad, he, _⟩ := hr0.2.2 hz
     cases he
   subst h0
   clear hr0 hn
   have hn2 := fun W : World => Lib.run_eql_slice_nil (P := Try.prog) W 29 5 none 0 c0 0 0 Try.underlying29
   go_enter Try.func173, Try.ntmps173
   go_wp2
   go_ret
   exact ⟨_, rfl, Kd.R_nil _ _ _ _ _, Below.refl _ _⟩
  | some ad =>
   clear hr0
   go_enter Try.func173, Try.ntmps173
   go_wp2_with (first | ((with_reducible refine gate_dst (N := 5) rfl ?_); refine rl_ (Kd.int .u8) 5 5 ([] : List Int) [] ?_; intro v1 w4 ho5 hb hg_ hnew_; clear hg_ hnew_; have HO := Aside0.mk ho5; have HB := Aside0.mk hb; clear ho5 hb) | ((with_reducible refine gate_builtin (b := .append) (xs := #[.tmp 5, .tmp 6]) rfl ?_); at_builtin; refine Kd.R_append_rows (Kd.int .u8) (w0 := w) w.heap.size rfl (.tmp 5) (.tmp 6) 29 5 (.int .u8 0) 1 rfl Try.underlying29 slices_Clone_byte_byte.info rfl (by decide) (by omega) v1 [] l0 _ _ _ (fun _ => True) (fun _ => False) rfl rfl ?aO ?aR (fun _ _ h => h) (fun _ h => h.elim) ?aF ?aB ?aS ?aL ?_; (case aR => exact Kd.C_below HR0.out HB.out); (case aB => exact HB.out); (case aF => exact (fun _ _ => trivial)); (case aO => exact HO.out); (case aS => exact HB.out.size); (case aL => have := LM.out; simp only [List.length_nil]; omega); intro v2 w6 ho hb hg hat; have HO2 := Aside0.mk ho; have HB2 := Aside0.mk hb; clear ho hb hg hat))
   go_ret
   exact ⟨_, rfl, by simpa using HO2.out, HB2.out⟩
 ·rw [if_neg hl] at h
  cases h
end Go.Proofs.Ytcogimnpffnanaa.Q
end
section
namespace Go.Proofs.Ytcogimnpffnanaa.Q
open Go.RowKit Go.Proofs.YtcogimnpffnanaaW.PrintWords Go.Proofs.YtcogimnpffnanaaW.PrintLast Go.Proofs.YtcogimnpffnanaaW.PrintMore
attribute [local go_sem] max2_int min2_int max_two min_two max_three min_three max_four min_four   -- for this text's walks alone
set_option linter.unusedVariables false
set_option linter.unusedSimpArgs false
mutual
def impl_Padded.l0 : Nat → List Int → List Int → Option (List Int)
 | 0, _, _ => none
 | k + 1, x0, x3 => if (Int.tmod (wrap64 ((x3.length : Int) + 8)) 64) = 0 then (impl_Padded.l1 k x3 (wrap64 (8 * (x0.length : Int))) 7) else (if x3.length < 140737488355328 then (impl_Padded.l0 k x0 (x3 ++ [0])) else (none))
def impl_Padded.l1 : Nat → List Int → Int → Int → Option (List Int)
 | 0, _, _, _ => none
 | k + 1, x3, x4, x5 => if x5 ≥ 0 then (if 0 ≤ (IntKind.u64.wrap (wrap64 (8 * x5))) then (if x3.length < 140737488355328 then (impl_Padded.l1 k (x3 ++ [(shr .i64 x4 (IntKind.u64.wrap (wrap64 (8 * x5)))) % 256]) x4 (wrap64 (x5 - 1))) else (none)) else (none)) else (some x3)
end
def impl_Padded.f (k : Nat) (l0 : List Int) : Option (List Int) := (slices_Clone_byte_byte.f l0).bind fun t601 => (if t601.length < 140737488355328 then (impl_Padded.l0 k l0 (t601 ++ [128])) else (none))
theorem impl_Padded.mono_l : ∀ k, (∀ y0 y1, LeO (impl_Padded.l0 k y0 y1) (impl_Padded.l0 (k + 1) y0 y1)) ∧ (∀ y0 y1 y2, LeO (impl_Padded.l1 k y0 y1 y2) (impl_Padded.l1 (k + 1) y0 y1 y2))
 | 0 => ⟨fun _ _ r h => by simp [impl_Padded.l0] at h, fun _ _ _ r h => by simp [impl_Padded.l1] at h⟩
 | k + 1 => by
  obtain ⟨ih0, ih1⟩ := impl_Padded.mono_l k
  refine ⟨?_, ?_⟩
  ·intro y0 y1
   unfold impl_Padded.l0
   repeat' (with_reducible first | exact LeO.refl _ | exact LeO.none _ | apply ih0 | apply ih1 | apply LeO.ite | refine LeO.bind ?_ fun _ => ?_)
  ·intro y0 y1 y2
   unfold impl_Padded.l1
   repeat' (with_reducible first | exact LeO.refl _ | exact LeO.none _ | apply ih0 | apply ih1 | apply LeO.ite | refine LeO.bind ?_ fun _ => ?_)
theorem impl_Padded.mono : ∀ a0 k, LeO (impl_Padded.f k a0) (impl_Padded.f (k + 1) a0) := by
 intro a0 k
 obtain ⟨ih0, ih1⟩ := impl_Padded.mono_l k
 unfold impl_Padded.f
 repeat' (with_reducible first | exact LeO.refl _ | exact LeO.none _ | apply ih0 | apply ih1 | apply LeO.ite | refine LeO.bind ?_ fun _ => ?_)
set_option maxHeartbeats 8000000 in
set_option maxRecDepth 100000 in
theorem impl_Padded.calls (k : Nat) (A0 : Option Addr) (c0 : Nat) (l0 : List Int) (r : List Int) (w : World) (hr0 : Kd.C (Kd.int .u8) w A0 l0.length l0) (hc0 : l0.length ≤ c0) (h : impl_Padded.f k l0 = some r) :
  Calls Try.prog 152 #[.slice A0 l0.length c0] w fun e w' => ∃ v0_ : Value, e = .returned (v0_) ∧ Kd.R (Kd.int .u8) 5 w' w.heap.size (fun _ => True) v0_ r ∧ Below w.heap.size w w' := by
 have HR0 := Aside0.mk hr0
 have HC0 := Aside0.mk hc0
 clear hr0 hc0
 have HB := Aside0.mk (Below.refl w.heap.size w)
 have H : ((slices_Clone_byte_byte.f l0).bind fun t601 => (if t601.length < 140737488355328 then (impl_Padded.l0 k l0 (t601 ++ [128])) else (none))) = some r := h
 clear h
 replace H := Option.bind_eq_some_iff.mp H
 obtain ⟨t601, A20, H⟩ := H
 have A2 := Aside0.mk A20
 clear A20
 by_cases c3 : t601.length < 140737488355328
 ·rw [if_pos c3] at H
  have LMc3 := Aside0.mk c3
  clear c3
  obtain ⟨y604, hy604⟩ : ∃ y_ : List Int, y_ = (t601 ++ [128]) := ⟨_, rfl⟩
  replace H : (impl_Padded.l0 k l0 y604) = some r := by first | (rw [hy604]; with_reducible exact H) | (have H2_ := (Option.bind_some _ _).symm.trans H; rw [hy604]; with_reducible exact H2_) | (have H2_ := (Option.bind_some _ _).symm.trans H; with_reducible exact H2_) | with_reducible exact H | (rw [hy604]; exact H) | exact H
  have Ny604 := Aside0.mk hy604
  clear hy604
  have H' := Aside0.mk H
  clear H
  go_enter Try.func152, Try.ntmps152
  go_wp2_with (first | ((with_reducible refine gk_ 173 ?_); refine gl_ 7 Try.func173 #[.slice A0 l0.length c0] ?_; (with_reducible refine (slices_Clone_byte_byte.calls _ _ l0 t601 _ ?side1 ?side2 A2.out).mono ?_); (case side1 => exact cr_ HR0.out); (case side2 => exact HC0.out); rintro e w4 ⟨v602, rfl, ho0, hb⟩; refine ⟨_, rfl, ?_⟩; have HO603 := Aside0.mk (Kd.R_lower ho0 (below_size (bw_ HB))); replace HB := Aside0.mk (below_step (bw_ HB) hb); clear hb ho0) | ((with_reducible refine gate_builtin (b := .append) (xs := #[.tmp 7, .tmp 8]) rfl ?_); at_builtin; refine Kd.R_append (Kd.int .u8) (w0 := w) w.heap.size rfl (.tmp 7) (.tmp 8) 29 5 (.int .u8 0) 1 rfl Try.underlying29 info5 rfl (by decide) (by omega) v602 t601 128 [.int .u8 128] (fun _ => True) (fun _ => False) rfl rfl ?aP (fun _ hk => hk.elim) ?aF ?aO ?aB ?aS ?aL ?_; (case aP => exact rfl); (case aB => exact (bw_ HB)); (case aF => exact (fun _ _ => trivial)); (case aO => exact (kr_ HO603.out)); (case aS => exact (below_size (bw_ HB))); (case aL => have := LMc3.out; omega); intro v605 w5 ho hb hg hat; rw [← Ny604.out] at ho; replace HB := Aside0.mk (hb); have HO606 := Aside0.mk (ho); clear HO603; clear ho hb hg hat))
  go_loopg [3] k (fun kq v3 w' => ∃ (x3_1 : List Int), Aside0 (impl_Padded.l0 kq l0 x3_1 = some r) ∧ Aside0 (kq ≤ k) ∧ Aside0 (Kd.R (Kd.int .u8) 5 w' w.heap.size (fun _ => True) v3 x3_1) ∧ Aside0 (Below w.heap.size w w'))
  case atStart => exact ⟨(y604), H', ⟨Nat.le_refl _⟩, ⟨kr_ HO606.out⟩, ⟨bw_ HB⟩⟩
  case round =>
   clear H'
   try clear c1
   try clear p2
   try clear c3
   obtain ⟨x3_1, HA, HK1, HO_3, HB⟩ := hrel
   cases gk with
   | zero => exact absurd HA.out (by simp [impl_Padded.l0])
   | succ k1 =>
    have H := HA.out
    clear HA
    simp only [impl_Padded.l0] at H
    by_cases c6 : (Int.tmod (wrap64 ((x3_1.length : Int) + 8)) 64) = 0
    ·rw [if_pos c6] at H
     have c6b0 : ((Int.tmod (wrap64 ((x3_1.length : Int) + 8)) 64) == 0) = true := beq_iff_eq.mpr c6
     have c6b1 : ((Int.tmod (wrap64 ((x3_1.length : Int) + 8)) 64) != 0) = false := bne_eq_false_iff_eq.mpr c6
     clear c6
     have H' := Aside0.mk H
     clear H
     obtain ⟨Ao7, co7, eo7⟩ := Kd.R_slice HO_3.out
     subst eo7
     go_wp2
     go_loopg [3, 5] k1 (fun kq v3 v5 w' => ∃ (x3_2 : List Int) (x5_2 : Int), v5 = .int .i64 x5_2 ∧ Aside0 (impl_Padded.l1 kq x3_2 (wrap64 (8 * (l0.length : Int))) x5_2 = some r) ∧ Aside0 (kq ≤ k1) ∧ Aside0 (Kd.R (Kd.int .u8) 5 w' w.heap.size (fun _ => True) v3 x3_2) ∧ Aside0 (Below w.heap.size w w'))
     case atStart => exact ⟨(x3_1), (7), e1_, H', ⟨Nat.le_refl _⟩, ⟨kr_ HO_3.out⟩, ⟨bw_ HB⟩⟩
     case round =>
      clear H'
      try clear c1
      try clear p2
      try clear c3
      try clear c6
      try clear c6b0
      try clear c6b1
      try clear p6
      try clear p2
      obtain ⟨x3_2, x5_2, rfl, HA, HK2, HO_3, HB⟩ := hrel
      cases gk with
      | zero => exact absurd HA.out (by simp [impl_Padded.l1])
      | succ k2 =>
       have H := HA.out
       clear HA
       simp only [impl_Padded.l1] at H
       by_cases c8 : x5_2 ≥ 0
       ·rw [if_pos c8] at H
        have c8b0 : decide (0 ≤ x5_2) = true := decide_eq_true c8
        clear c8
        obtain ⟨ji9, hji9⟩ : ∃ j_ : Int, (IntKind.u64.wrap (wrap64 (8 * x5_2))) = j_ := ⟨_, rfl⟩
        replace H : (if 0 ≤ (ji9) then (if x3_2.length < 140737488355328 then (impl_Padded.l1 k2 (x3_2 ++ [(shr .i64 (wrap64 (8 * (l0.length : Int))) (ji9)) % 256]) (wrap64 (8 * (l0.length : Int))) (wrap64 (x5_2 - 1))) else (none)) else (none)) = some r := by first | (rw [hji9] at H; exact H) | (simp only [hji9] at H ⊢; exact H)
        by_cases c10 : 0 ≤ (ji9)
        ·rw [if_pos c10] at H
         have c10b0 := eq_true c10
         have c10b1 := decide_eq_true c10
         clear c10
         obtain ⟨ji11, hji11⟩ : ∃ j_ : Int, (shr .i64 (wrap64 (8 * (l0.length : Int))) (ji9)) = j_ := ⟨_, rfl⟩
         replace H : (if x3_2.length < 140737488355328 then (impl_Padded.l1 k2 (x3_2 ++ [(ji11) % 256]) (wrap64 (8 * (l0.length : Int))) (wrap64 (x5_2 - 1))) else (none)) = some r := by first | (rw [hji11] at H; exact H) | (simp only [hji11] at H ⊢; exact H)
         have hji11_ : ((wrap64 (8 * (l0.length : Int))) / 2 ^ min (ji9).toNat 64) = ji11 := hji11
         have hji11z : (ji9) ≤ 64 → ((wrap64 (8 * (l0.length : Int))) / 2 ^ (ji9).toNat) = ji11 := shr_small hji11
         by_cases c12 : x3_2.length < 140737488355328
         ·rw [if_pos c12] at H
          have LMc12 := Aside0.mk c12
          clear c12
          obtain ⟨y610, hy610⟩ : ∃ y_ : List Int, y_ = (x3_2 ++ [(ji11) % 256]) := ⟨_, rfl⟩
          replace H : (impl_Padded.l1 k2 y610 (wrap64 (8 * (l0.length : Int))) (wrap64 (x5_2 - 1))) = some r := by first | (rw [hy610]; with_reducible exact H) | (have H2_ := (Option.bind_some _ _).symm.trans H; rw [hy610]; with_reducible exact H2_) | (have H2_ := (Option.bind_some _ _).symm.trans H; with_reducible exact H2_) | with_reducible exact H | (rw [hy610]; exact H) | exact H
          have Ny610 := Aside0.mk hy610
          clear hy610
          have H' := Aside0.mk H
          clear H
          go_wp2_with (first | ((with_reducible refine gate_builtin (b := .append) (xs := #[.tmp 25, .tmp 32]) rfl ?_); at_builtin; refine Kd.R_append (Kd.int .u8) (w0 := w) w.heap.size rfl (.tmp 25) (.tmp 32) 29 5 (.int .u8 0) 1 rfl Try.underlying29 info5 rfl (by decide) (by omega) u3 x3_2 ((ji11) % 256) [.int .u8 ((ji11) % 256)] (fun _ => True) (fun _ => False) rfl rfl ?aP (fun _ hk => hk.elim) ?aF ?aO ?aB ?aS ?aL ?_; (case aP => exact rfl); (case aB => exact (bw_ HB)); (case aF => exact (fun _ _ => trivial)); (case aO => exact (kr_ HO_3.out)); (case aS => exact (below_size (bw_ HB))); (case aL => have := LMc12.out; omega); intro v611 w13 ho hb hg hat; rw [← Ny610.out] at ho; replace HB := Aside0.mk (hb); have HO612 := Aside0.mk (ho); clear HO_3; clear ho hb hg hat))
          go_roundg k2
          case measure => have := HK1.out; have := HK2.out; omega
          case rel => exact ⟨(y610), (wrap64 (x5_2 - 1)), e1_, H', ⟨by have := HK1.out; have := HK2.out; omega⟩, ⟨kr_ HO612.out⟩, ⟨bw_ HB⟩⟩
         ·rw [if_neg c12] at H
          exact absurd H (by simp)
        ·rw [if_neg c10] at H
         exact absurd H (by simp)
       ·rw [if_neg c8] at H
        have c8b0 : decide (0 ≤ x5_2) = false := decide_eq_false c8
        clear c8
        obtain rfl := Option.some.inj H
        go_wp2
        go_ret
        exact ⟨_, e2_, kr_ HO_3.out, bw_ HB⟩
    ·rw [if_neg c6] at H
     have c6b0 : ((Int.tmod (wrap64 ((x3_1.length : Int) + 8)) 64) == 0) = false := beq_eq_false_iff_ne.mpr c6
     have c6b1 : ((Int.tmod (wrap64 ((x3_1.length : Int) + 8)) 64) != 0) = true := bne_iff_ne.mpr c6
     by_cases c14 : x3_1.length < 140737488355328
     ·rw [if_pos c14] at H
      have LMc14 := Aside0.mk c14
      clear c14
      obtain ⟨y607, hy607⟩ : ∃ y_ : List Int, y_ = (x3_1 ++ [0]) := ⟨_, rfl⟩
      replace H : (impl_Padded.l0 k1 l0 y607) = some r := by first | (rw [hy607]; with_reducible exact H) | (have H2_ := (Option.bind_some _ _).symm.trans H; rw [hy607]; with_reducible exact H2_) | (have H2_ := (Option.bind_some _ _).symm.trans H; with_reducible exact H2_) | with_reducible exact H | (rw [hy607]; exact H) | exact H
      have Ny607 := Aside0.mk hy607
      clear hy607
      have H' := Aside0.mk H
      clear H
      obtain ⟨Ao15, co15, eo15⟩ := Kd.R_slice HO_3.out
      subst eo15
      go_wp2_with (first | ((with_reducible refine gate_builtin (b := .append) (xs := #[.tmp 15, .tmp 16]) rfl ?_); at_builtin; refine Kd.R_append (Kd.int .u8) (w0 := w) w.heap.size rfl (.tmp 15) (.tmp 16) 29 5 (.int .u8 0) 1 rfl Try.underlying29 info5 rfl (by decide) (by omega) (.slice Ao15 x3_1.length co15) x3_1 0 [.int .u8 0] (fun _ => True) (fun _ => False) rfl rfl ?aP (fun _ hk => hk.elim) ?aF ?aO ?aB ?aS ?aL ?_; (case aP => exact rfl); (case aB => exact (bw_ HB)); (case aF => exact (fun _ _ => trivial)); (case aO => exact (kr_ HO_3.out)); (case aS => exact (below_size (bw_ HB))); (case aL => have := LMc14.out; omega); intro v608 w16 ho hb hg hat; rw [← Ny607.out] at ho; replace HB := Aside0.mk (hb); have HO609 := Aside0.mk (ho); clear HO_3; clear ho hb hg hat))
      go_roundg k1
      case measure => have := HK1.out; omega
      case rel => exact ⟨(y607), H', ⟨by have := HK1.out; omega⟩, ⟨kr_ HO609.out⟩, ⟨bw_ HB⟩⟩
     ·rw [if_neg c14] at H
      exact absurd H (by simp)
 ·rw [if_neg c3] at H
  exact absurd H (by simp)
end Go.Proofs.Ytcogimnpffnanaa.Q
end
section
/- Padded, the program's: the bytes, 128, noughts, and how many bits there are in eight bytes. -/
namespace Go.Proofs.Ytcogimnpffnanaa.Q
open Go.RowKit Go.Proofs.Ytcogimnpffnanaa.B Go.Proofs.YtcogimnpffnanaaW.PrintWords Go.Proofs.YtcogimnpffnanaaW.PrintMore
def zerosOf (n : Nat) : Nat := (119 - n % 64) % 64
def tailBytes (n : Int) : Nat → List Int
 | 0 => []
 | j + 1 => (shr .i64 n (8 * (j : Int))) % 256 :: tailBytes n j
def len8 (n : Int) : List Int := tailBytes n 8
theorem tailBytes_length (n : Int) (j : Nat) : (tailBytes n j).length = j := by
 induction j with
 | zero => rfl
 | succ j ih => simp [tailBytes, ih]
theorem tailBytes_bytes (n : Int) (j : Nat) : ∀ x ∈ tailBytes n j, 0 ≤ x ∧ x ≤ 255 := by
 induction j with
 | zero => simp [tailBytes]
 | succ j ih =>
  intro x hx
  rcases List.mem_cons.1 hx with rfl | hx
  ·omega
  ·exact ih x hx
def padL (l : List Int) : List Int := l ++ [128] ++ List.replicate (zerosOf l.length) 0 ++ len8 (8 * l.length)
theorem padL_length (l : List Int) : (padL l).length % 64 = 0 := by
 simp [padL, len8, tailBytes_length, zerosOf]
 omega
theorem padL_bytes (l : List Int) (h : ∀ x ∈ l, 0 ≤ x ∧ x ≤ 255) : ∀ x ∈ padL l, 0 ≤ x ∧ x ≤ 255 := by
 intro x hx
 simp only [padL, len8, List.mem_append, List.mem_replicate] at hx
 rcases hx with ((hx | hx) | hx) | hx
 ·exact h x hx
 ·simp at hx
  omega
 ·omega
 ·exact tailBytes_bytes _ _ x hx
theorem padL_size (l : List Int) : (padL l).length ≤ l.length + 72 := by
 simp [padL, len8, tailBytes_length, zerosOf]
 omega
theorem u64_eight (j : Nat) (hj : j ≤ 7) : IntKind.u64.wrap (wrap64 (8 * (j : Int))) = 8 * (j : Int) := by
 rw [w64 (by omega) (by omega), IntWalk.u64_in _ ⟨by omega, by omega⟩]
theorem padded_l1 (n : Int) : ∀ (j : Nat) (acc : List Int), j ≤ 8 → acc.length + j ≤ 140737488355320 → Ev (fun k => impl_Padded.l1 k acc n ((j : Int) - 1)) (acc ++ tailBytes n j) := by
 intro j
 induction j with
 | zero =>
  intro acc _ _
  refine Ev.step (f := fun _ => some acc) (fun k => ?_) (Ev.one (Ev.now _) (by simp [tailBytes]))
  simp only [impl_Padded.l1]
  rw [if_neg (by omega)]
 | succ j ih =>
  intro acc h1 h2
  refine Ev.step (fun k => ?_) (Ev.one (ih (acc ++ [(shr .i64 n (8 * (j : Int))) % 256]) (by omega) (by simp; omega)) (by simp [tailBytes]))
  simp only [impl_Padded.l1]
  have hj : (((j + 1 : Nat) : Int) - 1) = (j : Int) := by omega
  rw [hj, if_pos (by omega), u64_eight j (by omega), if_pos (by omega), if_pos (by omega), w64 (by omega) (by omega)]
theorem padded_l0 (l : List Int) (hl : l.length ≤ 1099511627776) : ∀ (d i : Nat) (acc : List Int), i + d = zerosOf l.length → acc = l ++ [128] ++ List.replicate i 0 → Ev (fun k => impl_Padded.l0 k l acc) (padL l) := by
 intro d
 induction d with
 | zero =>
  intro i acc hi ha
  have hlen : acc.length = l.length + 1 + i := by rw [ha]; simp; omega
  have hz : zerosOf l.length = (119 - l.length % 64) % 64 := rfl
  refine Ev.step (fun k => ?_) (Ev.one (padded_l1 (8 * (l.length : Int)) 8 acc (by omega) (by omega)) ?_)
  ·simp only [impl_Padded.l0]
   rw [w64 (by omega) (by omega), Int.tmod_eq_emod_of_nonneg (by omega), if_pos (by omega), w64 (by omega) (by omega)]
   rfl
  ·rw [ha, show i = zerosOf l.length from by omega]
   rfl
 | succ d ih =>
  intro i acc hi ha
  have hlen : acc.length = l.length + 1 + i := by rw [ha]; simp; omega
  have hz : zerosOf l.length = (119 - l.length % 64) % 64 := rfl
  refine Ev.step (fun k => ?_) (ih (i + 1) (acc ++ [0]) (by omega) (by rw [ha, List.append_assoc (l ++ [128])]; congr 1; rw [List.replicate_succ']))
  simp only [impl_Padded.l0]
  rw [w64 (by omega) (by omega), Int.tmod_eq_emod_of_nonneg (by omega), if_neg (by omega), if_pos (by omega)]
theorem impl_Padded_ev (l : List Int) (hl : l.length ≤ 1099511627776) : Ev (fun k => impl_Padded.f k l) (padL l) := by
 refine Ev.congr (fun k => ?_) (padded_l0 l hl (zerosOf l.length) 0 (l ++ [128]) (by omega) (by simp))
 unfold impl_Padded.f slices_Clone_byte_byte.f
 rw [if_pos (by omega)]
 simp only [Option.bind_some]
 rw [if_pos (by omega)]
end Go.Proofs.Ytcogimnpffnanaa.Q
end
section
/- impl.rounds, and what impl.Digest comes to: the fold of the turned blocks of the padded bytes, as 32 bytes. -/
namespace Go.Proofs.Ytcogimnpffnanaa.Q
open Go.RowKit Go.Shelf Go.Proofs.YtcogimnpffnanaaW.PrintWords Go.Proofs.YtcogimnpffnanaaW.PrintLast Go.Proofs.YtcogimnpffnanaaW.PrintMore
set_option linter.unusedVariables false
set_option linter.unusedSimpArgs false
def shaK : List Int := [1116352408, 1899447441, 3049323471, 3921009573, 961987163, 1508970993, 2453635748, 2870763221, 3624381080, 310598401, 607225278, 1426881987, 1925078388, 2162078206, 2614888103, 3248222580, 3835390401, 4022224774, 264347078, 604807628, 770255983, 1249150122, 1555081692, 1996064986, 2554220882, 2821834349, 2952996808, 3210313671, 3336571891, 3584528711, 113926993, 338241895, 666307205, 773529912, 1294757372, 1396182291, 1695183700, 1986661051, 2177026350, 2456956037, 2730485921, 2820302411, 3259730800, 3345764771, 3516065817, 3600352804, 4094571909, 275423344, 430227734, 506948616, 659060556, 883997877, 958139571, 1322822218, 1537002063, 1747873779, 1955562222, 2024104815, 2227730452, 2361852424, 2428436474, 2756734187, 3204031479, 3329325298]
def shaH : List Int := [1779033703, 3144134277, 1013904242, 2773480762, 1359893119, 2600822924, 528734635, 1541459225]
def blockAt (p : List Int) (x : Nat) : List Int := (p.drop x).take 64
def foldAt (p : List Int) (xs : List Nat) : List Int := xs.foldl (fun h x => turned shaK (blockAt p x) h) shaH
theorem foldAt_snoc (p : List Int) (xs : List Nat) (x : Nat) : foldAt p (xs ++ [x]) = turned shaK (blockAt p x) (foldAt p xs) := by simp [foldAt]
theorem turned_length (ks bs hs : List Int) : (turned ks bs hs).length = hs.length := addAt_length _ _ _
theorem foldAt_length (p : List Int) (xs : List Nat) : (foldAt p xs).length = 8 := by
 have main : ∀ (xs : List Nat) (h : List Int), h.length = 8 → (xs.foldl (fun h x => turned shaK (blockAt p x) h) h).length = 8 := by
  intro xs
  induction xs with
  | nil => exact fun h hh => hh
  | cons x xs ih => exact fun h hh => ih _ (by rw [turned_length]; exact hh)
 exact main xs shaH rfl
def wordBytes (x : Int) : List Int := [x / 16777216 % 256, x / 65536 % 256, x / 256 % 256, x % 256]
def outBytes (hs : List Int) (k : Nat) : List Int := (hs.take k).flatMap wordBytes
def shaBytes (l : List Int) : List Int := outBytes (foldAt (padL l) (starts ((padL l).length / 64))) 8
def sha (l : List Int) : ByteArray := strOfNums (shaBytes l)
def impl_Digest.f (l : List Int) : Option (ByteArray) := if l.length ≤ 1099511627776 then some (sha l) else none
set_option maxHeartbeats 2000000 in
set_option maxRecDepth 100000 in
theorem rounds_calls (w : World) : Calls Try.prog 150 #[] w fun e w' => ∃ g, e = .returned (.pointer (some ⟨g, 0, none⟩)) ∧ w.heap.size ≤ g ∧ w'.heap[g]? = some (.cells (arrU shaK) 191 (0, 0)) ∧ Below w.heap.size w w' := by
 go_enter Try.func150, Try.ntmps150
 go_wp2
 go_ret
 exact ⟨_, rfl, Nat.le_refl _, blk_new w _, (Below.refl _ _).alloc (Nat.le_refl _) _⟩
theorem sub_reads {w : World} {b n : Nat} {xs : List Int} (h : Kd.C (Kd.int .u8) w (some ⟨b, 0, none⟩) n xs) (x : Nat) (hx : x + 64 ≤ n) : Kd.C (Kd.int .u8) w (some ⟨b, 0 + x, none⟩) (blockAt xs x).length (blockAt xs x) ∧ (blockAt xs x).length = 64 := by
 have hl := h.1
 have h64 : (blockAt xs x).length = 64 := by simp [blockAt]; omega
 obtain ⟨ad, he, hby⟩ := bytes_at h (by omega)
 obtain rfl := (Option.some.inj he).symm
 refine ⟨⟨rfl, by omega, fun _ => ⟨_, rfl, fun j p hj => ⟨[.int .u8 p], rfl, rfl, fun i u hu => ?_⟩⟩⟩, h64⟩
 have hj64 : j < 64 := by rw [← h64]; exact (List.getElem?_eq_some_iff.1 hj).1
 have hi0 : i = 0 := by
  rcases Nat.eq_zero_or_pos i with hz | hz
  ·exact hz
  ·rw [List.getElem?_eq_none (by simp; omega)] at hu
   cases hu
 subst hi0
 have hu2 : u = .int .u8 p := by simpa using hu.symm
 have hp : xs[x + j]? = some p := by
  rw [blockAt, List.getElem?_take, if_pos hj64, List.getElem?_drop] at hj
  exact hj
 have := hby.2 (x + j) (by omega)
 rw [hu2]
 have hrd : rd xs ((x + j : Nat) : Int) = p := by unfold rd; rw [Int.toNat_natCast]; simp [List.getD_eq_getElem?_getD, hp]
 rw [hrd] at this
 have haddr : (⟨b, 0 + x, none⟩ : Addr).add (j * (Kd.int .u8).sz + 0) = (⟨b, 0, none⟩ : Addr).add (x + j) := by
  rw [show (Kd.int .u8).sz = 1 from rfl, Nat.mul_one, Nat.add_zero]
  unfold Addr.add
  by_cases hj0 : j = 0
  ·by_cases hxx : x = 0
   ·simp [hj0, hxx]
   ·simp [hj0, hxx]
  ·simp [hj0]
 rw [haddr]
 exact this
end Go.Proofs.Ytcogimnpffnanaa.Q
end
section
namespace Go.Proofs.Ytcogimnpffnanaa.Q
open Go.RowKit Go.Proofs.YtcogimnpffnanaaW.PrintWords Go.Proofs.YtcogimnpffnanaaW.PrintLast Go.Proofs.YtcogimnpffnanaaW.PrintMore
attribute [local go_sem] max2_int min2_int max_two min_two max_three min_three max_four min_four   -- for this text's walks alone
set_option linter.unusedVariables false
set_option linter.unusedSimpArgs false
mutual
def spec_Padded.l0 : Nat → List Int → List Int → Option (List Int)
 | 0, _, _ => none
 | k + 1, x0, x3 => if ((x3.length : Int) % 64) = 56 then (spec_Padded.l1 k x3 (wrap64 ((x0.length : Int) * 8)) 56) else (if x3.length < 140737488355328 then (spec_Padded.l0 k x0 (x3 ++ [0])) else (none))
def spec_Padded.l1 : Nat → List Int → Int → Int → Option (List Int)
 | 0, _, _, _ => none
 | k + 1, x3, x4, x5 => if x5 ≥ 0 then (if 0 ≤ (IntKind.u64.wrap (x5)) then (if x3.length < 140737488355328 then (spec_Padded.l1 k (x3 ++ [(shr .i64 x4 (IntKind.u64.wrap (x5))) % 256]) x4 (wrap64 (x5 - 8))) else (none)) else (none)) else (some x3)
end
def spec_Padded.f (k : Nat) (l0 : List Int) : Option (List Int) := (some (([] : List Int) : List Int)).bind fun y601 => (if y601.length + l0.length < 140737488355328 then ((some (y601 ++ l0 : List Int)).bind fun y604 => (if y604.length < 140737488355328 then (spec_Padded.l0 k l0 (y604 ++ [128])) else (none))) else (none))
theorem spec_Padded.mono_l : ∀ k, (∀ y0 y1, LeO (spec_Padded.l0 k y0 y1) (spec_Padded.l0 (k + 1) y0 y1)) ∧ (∀ y0 y1 y2, LeO (spec_Padded.l1 k y0 y1 y2) (spec_Padded.l1 (k + 1) y0 y1 y2))
 | 0 => ⟨fun _ _ r h => by simp [spec_Padded.l0] at h, fun _ _ _ r h => by simp [spec_Padded.l1] at h⟩
 | k + 1 => by
  obtain ⟨ih0, ih1⟩ := spec_Padded.mono_l k
  refine ⟨?_, ?_⟩
  ·intro y0 y1
   unfold spec_Padded.l0
   repeat' (with_reducible first | exact LeO.refl _ | exact LeO.none _ | apply ih0 | apply ih1 | apply LeO.ite | refine LeO.bind ?_ fun _ => ?_)
  ·intro y0 y1 y2
   unfold spec_Padded.l1
   repeat' (with_reducible first | exact LeO.refl _ | exact LeO.none _ | apply ih0 | apply ih1 | apply LeO.ite | refine LeO.bind ?_ fun _ => ?_)
theorem spec_Padded.mono : ∀ a0 k, LeO (spec_Padded.f k a0) (spec_Padded.f (k + 1) a0) := by
 intro a0 k
 obtain ⟨ih0, ih1⟩ := spec_Padded.mono_l k
 unfold spec_Padded.f
 repeat' (with_reducible first | exact LeO.refl _ | exact LeO.none _ | apply ih0 | apply ih1 | apply LeO.ite | refine LeO.bind ?_ fun _ => ?_)
set_option maxHeartbeats 8000000 in
set_option maxRecDepth 100000 in
theorem spec_Padded.calls (k : Nat) (A0 : Option Addr) (c0 : Nat) (l0 : List Int) (r : List Int) (w : World) (hr0 : Kd.C (Kd.int .u8) w A0 l0.length l0) (hc0 : l0.length ≤ c0) (h : spec_Padded.f k l0 = some r) :
  Calls Try.prog 147 #[.slice A0 l0.length c0] w fun e w' => ∃ v0_ : Value, e = .returned (v0_) ∧ Kd.R (Kd.int .u8) 5 w' w.heap.size (fun _ => True) v0_ r ∧ Below w.heap.size w w' := by
 have HR0 := Aside0.mk hr0
 have HC0 := Aside0.mk hc0
 clear hr0 hc0
 have HB := Aside0.mk (Below.refl w.heap.size w)
 have H : ((some (([] : List Int) : List Int)).bind fun y601 => (if y601.length + l0.length < 140737488355328 then ((some (y601 ++ l0 : List Int)).bind fun y604 => (if y604.length < 140737488355328 then (spec_Padded.l0 k l0 (y604 ++ [128])) else (none))) else (none))) = some r := h
 clear h
 obtain ⟨y601, Ny601, H⟩ := sb_ (([] : List Int)) H
 by_cases c2 : y601.length + l0.length < 140737488355328
 ·rw [if_pos c2] at H
  have LMc2 := Aside0.mk c2
  clear c2
  obtain ⟨y604, Ny604, H⟩ := sb_ (y601 ++ l0) H
  by_cases c3 : y604.length < 140737488355328
  ·rw [if_pos c3] at H
   have LMc3 := Aside0.mk c3
   clear c3
   obtain ⟨y607, hy607⟩ : ∃ y_ : List Int, y_ = (y604 ++ [128]) := ⟨_, rfl⟩
   replace H : (spec_Padded.l0 k l0 y607) = some r := by first | (rw [hy607]; with_reducible exact H) | (have H2_ := (Option.bind_some _ _).symm.trans H; rw [hy607]; with_reducible exact H2_) | (have H2_ := (Option.bind_some _ _).symm.trans H; with_reducible exact H2_) | with_reducible exact H | (rw [hy607]; exact H) | exact H
   have Ny607 := Aside0.mk hy607
   clear hy607
   have H' := Aside0.mk H
   clear H
   go_enter Try.func147, Try.ntmps147
   go_wp2_with (first | ((with_reducible refine gate_dst (N := 6) rfl ?_); refine rl_ (Kd.int .u8) 5 6 ([] : List Int) [] ?_; intro v602 w4 ho5 hb hg_ hnew_; clear hg_ hnew_; (first | rw [← Ny601.out] at ho5 | (simp only [Int.reduceToNat] at ho5; rw [← Ny601.out] at ho5)); have HO603 := Aside0.mk (Kd.R_lower ho5 (below_size (bw_ HB))); replace HB := Aside0.mk (below_step (bw_ HB) hb); clear hb ho5) | ((with_reducible refine gate_builtin (b := .append) (xs := #[.tmp 6, .tmp 7]) rfl ?_); at_builtin; refine Kd.R_append_rows (Kd.int .u8) (w0 := w) w.heap.size rfl (.tmp 6) (.tmp 7) 29 5 (.int .u8 0) 1 rfl Try.underlying29 info5 rfl (by decide) (by omega) v602 y601 l0 _ _ _ (fun _ => True) (fun _ => False) rfl rfl ?aO ?aR (fun _ _ h => h) (fun _ h => h.elim) ?aF ?aB ?aS ?aL ?_; (case aR => repeat (first | exact (Kd.C_below HR0.out HB.out) | (with_reducible refine Kd.C_alloc ?_ _) | (with_reducible refine Kd.C_drewN ?_ _) | (with_reducible refine Kd.C_drew ?_))); (case aB => exact (bw_ HB)); (case aF => exact (fun _ _ => trivial)); (case aO => exact (kr_ HO603.out)); (case aS => exact (below_size (bw_ HB))); (case aL => have := LMc2.out; omega); intro v605 w6 ho hb hg hat; rw [← Ny604.out] at ho; replace HB := Aside0.mk (hb); have HO606 := Aside0.mk (ho); clear HO603; clear ho hb hg hat) | ((with_reducible refine gate_builtin (b := .append) (xs := #[.tmp 8, .tmp 9]) rfl ?_); at_builtin; refine Kd.R_append (Kd.int .u8) (w0 := w) w.heap.size rfl (.tmp 8) (.tmp 9) 29 5 (.int .u8 0) 1 rfl Try.underlying29 info5 rfl (by decide) (by omega) v605 y604 128 [.int .u8 128] (fun _ => True) (fun _ => False) rfl rfl ?aP (fun _ hk => hk.elim) ?aF ?aO ?aB ?aS ?aL ?_; (case aP => exact rfl); (case aB => exact (bw_ HB)); (case aF => exact (fun _ _ => trivial)); (case aO => exact (kr_ HO606.out)); (case aS => exact (below_size (bw_ HB))); (case aL => have := LMc3.out; omega); intro v608 w7 ho hb hg hat; rw [← Ny607.out] at ho; replace HB := Aside0.mk (hb); have HO609 := Aside0.mk (ho); clear HO606; clear ho hb hg hat))
   go_loopg [3] k (fun kq v3 w' => ∃ (x3_1 : List Int), Aside0 (spec_Padded.l0 kq l0 x3_1 = some r) ∧ Aside0 (kq ≤ k) ∧ Aside0 (Kd.R (Kd.int .u8) 5 w' w.heap.size (fun _ => True) v3 x3_1) ∧ Aside0 (Below w.heap.size w w'))
   case atStart => exact ⟨(y607), H', ⟨Nat.le_refl _⟩, ⟨kr_ HO609.out⟩, ⟨bw_ HB⟩⟩
   case round =>
    clear H'
    try clear c1
    try clear c2
    try clear p2
    try clear c3
    obtain ⟨x3_1, HA, HK1, HO_3, HB⟩ := hrel
    cases gk with
    | zero => exact absurd HA.out (by simp [spec_Padded.l0])
    | succ k1 =>
     have H := HA.out
     clear HA
     simp only [spec_Padded.l0] at H
     by_cases c8 : ((x3_1.length : Int) % 64) = 56
     ·rw [if_pos c8] at H
      have c8b0 : (((x3_1.length : Int) % 64) == 56) = true := beq_iff_eq.mpr c8
      have c8b1 : (((x3_1.length : Int) % 64) != 56) = false := bne_eq_false_iff_eq.mpr c8
      clear c8
      have H' := Aside0.mk H
      clear H
      obtain ⟨Ao9, co9, eo9⟩ := Kd.R_slice HO_3.out
      subst eo9
      go_wp2
      go_loopg [3, 5] k1 (fun kq v3 v5 w' => ∃ (x3_2 : List Int) (x5_2 : Int), v5 = .int .i64 x5_2 ∧ Aside0 (spec_Padded.l1 kq x3_2 (wrap64 ((l0.length : Int) * 8)) x5_2 = some r) ∧ Aside0 (kq ≤ k1) ∧ Aside0 (Kd.R (Kd.int .u8) 5 w' w.heap.size (fun _ => True) v3 x3_2) ∧ Aside0 (Below w.heap.size w w'))
      case atStart => exact ⟨(x3_1), (56), e1_, H', ⟨Nat.le_refl _⟩, ⟨kr_ HO_3.out⟩, ⟨bw_ HB⟩⟩
      case round =>
       clear H'
       try clear c1
       try clear c2
       try clear p2
       try clear c3
       try clear p6
       try clear c8
       try clear c8b0
       try clear c8b1
       try clear p2
       obtain ⟨x3_2, x5_2, rfl, HA, HK2, HO_3, HB⟩ := hrel
       cases gk with
       | zero => exact absurd HA.out (by simp [spec_Padded.l1])
       | succ k2 =>
        have H := HA.out
        clear HA
        simp only [spec_Padded.l1] at H
        by_cases c10 : x5_2 ≥ 0
        ·rw [if_pos c10] at H
         have c10b0 : decide (0 ≤ x5_2) = true := decide_eq_true c10
         clear c10
         obtain ⟨ji11, hji11⟩ : ∃ j_ : Int, (IntKind.u64.wrap (x5_2)) = j_ := ⟨_, rfl⟩
         replace H : (if 0 ≤ (ji11) then (if x3_2.length < 140737488355328 then (spec_Padded.l1 k2 (x3_2 ++ [(shr .i64 (wrap64 ((l0.length : Int) * 8)) (ji11)) % 256]) (wrap64 ((l0.length : Int) * 8)) (wrap64 (x5_2 - 8))) else (none)) else (none)) = some r := by first | (rw [hji11] at H; exact H) | (simp only [hji11] at H ⊢; exact H)
         by_cases c12 : 0 ≤ (ji11)
         ·rw [if_pos c12] at H
          have c12b0 := eq_true c12
          have c12b1 := decide_eq_true c12
          clear c12
          obtain ⟨ji13, hji13⟩ : ∃ j_ : Int, (shr .i64 (wrap64 ((l0.length : Int) * 8)) (ji11)) = j_ := ⟨_, rfl⟩
          replace H : (if x3_2.length < 140737488355328 then (spec_Padded.l1 k2 (x3_2 ++ [(ji13) % 256]) (wrap64 ((l0.length : Int) * 8)) (wrap64 (x5_2 - 8))) else (none)) = some r := by first | (rw [hji13] at H; exact H) | (simp only [hji13] at H ⊢; exact H)
          have hji13_ : ((wrap64 ((l0.length : Int) * 8)) / 2 ^ min (ji11).toNat 64) = ji13 := hji13
          have hji13z : (ji11) ≤ 64 → ((wrap64 ((l0.length : Int) * 8)) / 2 ^ (ji11).toNat) = ji13 := shr_small hji13
          by_cases c14 : x3_2.length < 140737488355328
          ·rw [if_pos c14] at H
           have LMc14 := Aside0.mk c14
           clear c14
           obtain ⟨y613, hy613⟩ : ∃ y_ : List Int, y_ = (x3_2 ++ [(ji13) % 256]) := ⟨_, rfl⟩
           replace H : (spec_Padded.l1 k2 y613 (wrap64 ((l0.length : Int) * 8)) (wrap64 (x5_2 - 8))) = some r := by first | (rw [hy613]; with_reducible exact H) | (have H2_ := (Option.bind_some _ _).symm.trans H; rw [hy613]; with_reducible exact H2_) | (have H2_ := (Option.bind_some _ _).symm.trans H; with_reducible exact H2_) | with_reducible exact H | (rw [hy613]; exact H) | exact H
           have Ny613 := Aside0.mk hy613
           clear hy613
           have H' := Aside0.mk H
           clear H
           go_wp2_with (first | ((with_reducible refine gate_builtin (b := .append) (xs := #[.tmp 25, .tmp 31]) rfl ?_); at_builtin; refine Kd.R_append (Kd.int .u8) (w0 := w) w.heap.size rfl (.tmp 25) (.tmp 31) 29 5 (.int .u8 0) 1 rfl Try.underlying29 info5 rfl (by decide) (by omega) u3 x3_2 ((ji13) % 256) [.int .u8 ((ji13) % 256)] (fun _ => True) (fun _ => False) rfl rfl ?aP (fun _ hk => hk.elim) ?aF ?aO ?aB ?aS ?aL ?_; (case aP => exact rfl); (case aB => exact (bw_ HB)); (case aF => exact (fun _ _ => trivial)); (case aO => exact (kr_ HO_3.out)); (case aS => exact (below_size (bw_ HB))); (case aL => have := LMc14.out; omega); intro v614 w15 ho hb hg hat; rw [← Ny613.out] at ho; replace HB := Aside0.mk (hb); have HO615 := Aside0.mk (ho); clear HO_3; clear ho hb hg hat))
           go_roundg k2
           case measure => have := HK1.out; have := HK2.out; omega
           case rel => exact ⟨(y613), (wrap64 (x5_2 - 8)), e1_, H', ⟨by have := HK1.out; have := HK2.out; omega⟩, ⟨kr_ HO615.out⟩, ⟨bw_ HB⟩⟩
          ·rw [if_neg c14] at H
           exact absurd H (by simp)
         ·rw [if_neg c12] at H
          exact absurd H (by simp)
        ·rw [if_neg c10] at H
         have c10b0 : decide (0 ≤ x5_2) = false := decide_eq_false c10
         clear c10
         obtain rfl := Option.some.inj H
         go_wp2
         go_ret
         exact ⟨_, e2_, kr_ HO_3.out, bw_ HB⟩
     ·rw [if_neg c8] at H
      have c8b0 : (((x3_1.length : Int) % 64) == 56) = false := beq_eq_false_iff_ne.mpr c8
      have c8b1 : (((x3_1.length : Int) % 64) != 56) = true := bne_iff_ne.mpr c8
      by_cases c16 : x3_1.length < 140737488355328
      ·rw [if_pos c16] at H
       have LMc16 := Aside0.mk c16
       clear c16
       obtain ⟨y610, hy610⟩ : ∃ y_ : List Int, y_ = (x3_1 ++ [0]) := ⟨_, rfl⟩
       replace H : (spec_Padded.l0 k1 l0 y610) = some r := by first | (rw [hy610]; with_reducible exact H) | (have H2_ := (Option.bind_some _ _).symm.trans H; rw [hy610]; with_reducible exact H2_) | (have H2_ := (Option.bind_some _ _).symm.trans H; with_reducible exact H2_) | with_reducible exact H | (rw [hy610]; exact H) | exact H
       have Ny610 := Aside0.mk hy610
       clear hy610
       have H' := Aside0.mk H
       clear H
       obtain ⟨Ao17, co17, eo17⟩ := Kd.R_slice HO_3.out
       subst eo17
       go_wp2_with (first | ((with_reducible refine gate_builtin (b := .append) (xs := #[.tmp 15, .tmp 16]) rfl ?_); at_builtin; refine Kd.R_append (Kd.int .u8) (w0 := w) w.heap.size rfl (.tmp 15) (.tmp 16) 29 5 (.int .u8 0) 1 rfl Try.underlying29 info5 rfl (by decide) (by omega) (.slice Ao17 x3_1.length co17) x3_1 0 [.int .u8 0] (fun _ => True) (fun _ => False) rfl rfl ?aP (fun _ hk => hk.elim) ?aF ?aO ?aB ?aS ?aL ?_; (case aP => exact rfl); (case aB => exact (bw_ HB)); (case aF => exact (fun _ _ => trivial)); (case aO => exact (kr_ HO_3.out)); (case aS => exact (below_size (bw_ HB))); (case aL => have := LMc16.out; omega); intro v611 w18 ho hb hg hat; rw [← Ny610.out] at ho; replace HB := Aside0.mk (hb); have HO612 := Aside0.mk (ho); clear HO_3; clear ho hb hg hat))
       go_roundg k1
       case measure => have := HK1.out; omega
       case rel => exact ⟨(y610), H', ⟨by have := HK1.out; omega⟩, ⟨kr_ HO612.out⟩, ⟨bw_ HB⟩⟩
      ·rw [if_neg c16] at H
       exact absurd H (by simp)
  ·rw [if_neg c3] at H
   exact absurd H (by simp)
 ·rw [if_neg c2] at H
  exact absurd H (by simp)
end Go.Proofs.Ytcogimnpffnanaa.Q
end
section
namespace Go.Proofs.Ytcogimnpffnanaa.Q
open Go.RowKit Go.Proofs.YtcogimnpffnanaaW.PrintWords Go.Proofs.YtcogimnpffnanaaW.PrintLast Go.Proofs.YtcogimnpffnanaaW.PrintMore
attribute [local go_sem] max2_int min2_int max_two min_two max_three min_three max_four min_four   -- for this text's walks alone
set_option linter.unusedVariables false
set_option linter.unusedSimpArgs false
def spec_l2K.f  : Option (List Int) := some (([1116352408, 1899447441, 3049323471, 3921009573, 961987163, 1508970993, 2453635748, 2870763221, 3624381080, 310598401, 607225278, 1426881987, 1925078388, 2162078206, 2614888103, 3248222580, 3835390401, 4022224774, 264347078, 604807628, 770255983, 1249150122, 1555081692, 1996064986, 2554220882, 2821834349, 2952996808, 3210313671, 3336571891, 3584528711, 113926993, 338241895, 666307205, 773529912, 1294757372, 1396182291, 1695183700, 1986661051, 2177026350, 2456956037, 2730485921, 2820302411, 3259730800, 3345764771, 3516065817, 3600352804, 4094571909, 275423344, 430227734, 506948616, 659060556, 883997877, 958139571, 1322822218, 1537002063, 1747873779, 1955562222, 2024104815, 2227730452, 2361852424, 2428436474, 2756734187, 3204031479, 3329325298] : List Int))
set_option maxHeartbeats 8000000 in
set_option maxRecDepth 100000 in
theorem spec_l2K.calls  (r : List Int) (w : World) (h : spec_l2K.f  = some r) :
  Calls Try.prog 148 #[] w fun e w' => ∃ v0_ : Value, e = .returned (v0_) ∧ Kd.R (Kd.int .i64) 3 w' w.heap.size (fun _ => True) v0_ r ∧ Below w.heap.size w w' := by
 have HB := Aside0.mk (Below.refl w.heap.size w)
 have H : (some (([1116352408, 1899447441, 3049323471, 3921009573, 961987163, 1508970993, 2453635748, 2870763221, 3624381080, 310598401, 607225278, 1426881987, 1925078388, 2162078206, 2614888103, 3248222580, 3835390401, 4022224774, 264347078, 604807628, 770255983, 1249150122, 1555081692, 1996064986, 2554220882, 2821834349, 2952996808, 3210313671, 3336571891, 3584528711, 113926993, 338241895, 666307205, 773529912, 1294757372, 1396182291, 1695183700, 1986661051, 2177026350, 2456956037, 2730485921, 2820302411, 3259730800, 3345764771, 3516065817, 3600352804, 4094571909, 275423344, 430227734, 506948616, 659060556, 883997877, 958139571, 1322822218, 1537002063, 1747873779, 1955562222, 2024104815, 2227730452, 2361852424, 2428436474, 2756734187, 3204031479, 3329325298] : List Int))) = some r := h
 clear h
 obtain ⟨y601, hy601⟩ : ∃ y_ : List Int, y_ = (([1116352408, 1899447441, 3049323471, 3921009573, 961987163, 1508970993, 2453635748, 2870763221, 3624381080, 310598401, 607225278, 1426881987, 1925078388, 2162078206, 2614888103, 3248222580, 3835390401, 4022224774, 264347078, 604807628, 770255983, 1249150122, 1555081692, 1996064986, 2554220882, 2821834349, 2952996808, 3210313671, 3336571891, 3584528711, 113926993, 338241895, 666307205, 773529912, 1294757372, 1396182291, 1695183700, 1986661051, 2177026350, 2456956037, 2730485921, 2820302411, 3259730800, 3345764771, 3516065817, 3600352804, 4094571909, 275423344, 430227734, 506948616, 659060556, 883997877, 958139571, 1322822218, 1537002063, 1747873779, 1955562222, 2024104815, 2227730452, 2361852424, 2428436474, 2756734187, 3204031479, 3329325298] : List Int)) := ⟨_, rfl⟩
 replace H : (some y601) = some r := by first | (rw [hy601]; with_reducible exact H) | (have H2_ := (Option.bind_some _ _).symm.trans H; rw [hy601]; with_reducible exact H2_) | (have H2_ := (Option.bind_some _ _).symm.trans H; with_reducible exact H2_) | with_reducible exact H | (rw [hy601]; exact H) | exact H
 have Ny601 := Aside0.mk hy601
 clear hy601
 obtain rfl := Option.some.inj H
 go_enter Try.func148, Try.ntmps148
 go_wp2_with (first | ((with_reducible refine gate_dst (N := 1) rfl ?_); refine rl_ (Kd.int .i64) 3 1 ([1116352408, 1899447441, 3049323471, 3921009573, 961987163, 1508970993, 2453635748, 2870763221, 3624381080, 310598401, 607225278, 1426881987, 1925078388, 2162078206, 2614888103, 3248222580, 3835390401, 4022224774, 264347078, 604807628, 770255983, 1249150122, 1555081692, 1996064986, 2554220882, 2821834349, 2952996808, 3210313671, 3336571891, 3584528711, 113926993, 338241895, 666307205, 773529912, 1294757372, 1396182291, 1695183700, 1986661051, 2177026350, 2456956037, 2730485921, 2820302411, 3259730800, 3345764771, 3516065817, 3600352804, 4094571909, 275423344, 430227734, 506948616, 659060556, 883997877, 958139571, 1322822218, 1537002063, 1747873779, 1955562222, 2024104815, 2227730452, 2361852424, 2428436474, 2756734187, 3204031479, 3329325298] : List Int) [.int .i64 1116352408, .int .i64 1899447441, .int .i64 3049323471, .int .i64 3921009573, .int .i64 961987163, .int .i64 1508970993, .int .i64 2453635748, .int .i64 2870763221, .int .i64 3624381080, .int .i64 310598401, .int .i64 607225278, .int .i64 1426881987, .int .i64 1925078388, .int .i64 2162078206, .int .i64 2614888103, .int .i64 3248222580, .int .i64 3835390401, .int .i64 4022224774, .int .i64 264347078, .int .i64 604807628, .int .i64 770255983, .int .i64 1249150122, .int .i64 1555081692, .int .i64 1996064986, .int .i64 2554220882, .int .i64 2821834349, .int .i64 2952996808, .int .i64 3210313671, .int .i64 3336571891, .int .i64 3584528711, .int .i64 113926993, .int .i64 338241895, .int .i64 666307205, .int .i64 773529912, .int .i64 1294757372, .int .i64 1396182291, .int .i64 1695183700, .int .i64 1986661051, .int .i64 2177026350, .int .i64 2456956037, .int .i64 2730485921, .int .i64 2820302411, .int .i64 3259730800, .int .i64 3345764771, .int .i64 3516065817, .int .i64 3600352804, .int .i64 4094571909, .int .i64 275423344, .int .i64 430227734, .int .i64 506948616, .int .i64 659060556, .int .i64 883997877, .int .i64 958139571, .int .i64 1322822218, .int .i64 1537002063, .int .i64 1747873779, .int .i64 1955562222, .int .i64 2024104815, .int .i64 2227730452, .int .i64 2361852424, .int .i64 2428436474, .int .i64 2756734187, .int .i64 3204031479, .int .i64 3329325298] ?_; intro v602 w1 ho2 hb hg_ hnew_; clear hg_ hnew_; (first | rw [← Ny601.out] at ho2 | (simp only [Int.reduceToNat] at ho2; rw [← Ny601.out] at ho2)); have HO603 := Aside0.mk (Kd.R_lower ho2 (below_size (bw_ HB))); replace HB := Aside0.mk (below_step (bw_ HB) hb); clear hb ho2))
 go_ret
 exact ⟨_, e2_, kr_ HO603.out, bw_ HB⟩
end Go.Proofs.Ytcogimnpffnanaa.Q
end
section
namespace Go.Proofs.Ytcogimnpffnanaa.Q
open Go.RowKit Go.Proofs.YtcogimnpffnanaaW.PrintWords Go.Proofs.YtcogimnpffnanaaW.PrintLast Go.Proofs.YtcogimnpffnanaaW.PrintMore
attribute [local go_sem] max2_int min2_int max_two min_two max_three min_three max_four min_four   -- for this text's walks alone
set_option linter.unusedVariables false
set_option linter.unusedSimpArgs false
def spec_l2Turn.f (a0 : Int) (a1 : Int) : Option (Int) := if 0 ≤ (IntKind.u64.wrap (a1)) then (if 0 ≤ (IntKind.u64.wrap (wrap64 (32 - a1))) then (some (Go.bits .and .i64 (Go.bits .or .i64 (shr .i64 a0 (IntKind.u64.wrap (a1))) (shl .i64 a0 (IntKind.u64.wrap (wrap64 (32 - a1))))) 4294967295)) else (none)) else (none)
set_option maxHeartbeats 8000000 in
set_option maxRecDepth 100000 in
theorem spec_l2Turn.calls (a0 : Int) (a1 : Int) (r : Int) (w : World) (h : spec_l2Turn.f a0 a1 = some r) :
  Calls Try.prog 177 #[.int .i64 a0, .int .i64 a1] w fun e w' => e = .returned (.int .i64 r) ∧ Drawn0 w w' := by
 have H : (if 0 ≤ (IntKind.u64.wrap (a1)) then (if 0 ≤ (IntKind.u64.wrap (wrap64 (32 - a1))) then (some (Go.bits .and .i64 (Go.bits .or .i64 (shr .i64 a0 (IntKind.u64.wrap (a1))) (shl .i64 a0 (IntKind.u64.wrap (wrap64 (32 - a1))))) 4294967295)) else (none)) else (none)) = some r := h
 clear h
 obtain ⟨ji3, hji3⟩ : ∃ j_ : Int, (IntKind.u64.wrap (a1)) = j_ := ⟨_, rfl⟩
 replace H : (if 0 ≤ (ji3) then (if 0 ≤ (IntKind.u64.wrap (wrap64 (32 - a1))) then (some (Go.bits .and .i64 (Go.bits .or .i64 (shr .i64 a0 (ji3)) (shl .i64 a0 (IntKind.u64.wrap (wrap64 (32 - a1))))) 4294967295)) else (none)) else (none)) = some r := by first | (rw [hji3] at H; exact H) | (simp only [hji3] at H ⊢; exact H)
 by_cases c4 : 0 ≤ (ji3)
 ·rw [if_pos c4] at H
  have c4b0 := eq_true c4
  have c4b1 := decide_eq_true c4
  clear c4
  obtain ⟨ji5, hji5⟩ : ∃ j_ : Int, (shr .i64 a0 (ji3)) = j_ := ⟨_, rfl⟩
  replace H : (if 0 ≤ (IntKind.u64.wrap (wrap64 (32 - a1))) then (some (Go.bits .and .i64 (Go.bits .or .i64 (ji5) (shl .i64 a0 (IntKind.u64.wrap (wrap64 (32 - a1))))) 4294967295)) else (none)) = some r := by first | (rw [hji5] at H; exact H) | (simp only [hji5] at H ⊢; exact H)
  have hji5_ : (a0 / 2 ^ min (ji3).toNat 64) = ji5 := hji5
  have hji5z : (ji3) ≤ 64 → (a0 / 2 ^ (ji3).toNat) = ji5 := shr_small hji5
  obtain ⟨ji6, hji6⟩ : ∃ j_ : Int, (IntKind.u64.wrap (wrap64 (32 - a1))) = j_ := ⟨_, rfl⟩
  replace H : (if 0 ≤ (ji6) then (some (Go.bits .and .i64 (Go.bits .or .i64 (ji5) (shl .i64 a0 (ji6))) 4294967295)) else (none)) = some r := by first | (rw [hji6] at H; exact H) | (simp only [hji6] at H ⊢; exact H)
  by_cases c7 : 0 ≤ (ji6)
  ·rw [if_pos c7] at H
   have c7b0 := eq_true c7
   have c7b1 := decide_eq_true c7
   clear c7
   obtain ⟨ji8, hji8⟩ : ∃ j_ : Int, (shl .i64 a0 (ji6)) = j_ := ⟨_, rfl⟩
   replace H : (some (Go.bits .and .i64 (Go.bits .or .i64 (ji5) (ji8)) 4294967295)) = some r := by first | (rw [hji8] at H; exact H) | (simp only [hji8] at H ⊢; exact H)
   have hji8_ : (IntKind.i64.wrap (a0 * 2 ^ min (ji6).toNat 64)) = ji8 := hji8
   have hji8z : (ji6) ≤ 64 → (IntKind.i64.wrap (a0 * 2 ^ (ji6).toNat)) = ji8 := shl_small hji8
   have hji8y : (wrap64 (a0 * 2 ^ min (ji6).toNat 64)) = ji8 := (i64_w _).symm.trans hji8_
   have hji8x : (ji6) ≤ 64 → (wrap64 (a0 * 2 ^ (ji6).toNat)) = ji8 := fun h_ => (i64_w _).symm.trans (hji8z h_)
   obtain rfl := Option.some.inj H
   go_enter Try.func177, Try.ntmps177
   go_wp2
   go_ret
   exact ⟨by first | rfl | (simp; done) | (simp only [← hji3, ← hji5, ← hji6, ← hji8] <;> (first | rfl | simp)) | (simp [*]; done), dw_⟩
  ·rw [if_neg c7] at H
   exact absurd H (by simp)
 ·rw [if_neg c4] at H
  exact absurd H (by simp)
end Go.Proofs.Ytcogimnpffnanaa.Q
end
end

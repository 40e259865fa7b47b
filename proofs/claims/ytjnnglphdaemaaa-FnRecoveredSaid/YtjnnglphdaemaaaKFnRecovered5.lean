-- Joined and shortened by a program of this session (wip/tools/shakecopy.py): the words of the print, texts of pp.sh and of mine.
import Derived.Test.YtjnnglphdaemaaaKFnRecovered4
import Derived.Lib.SliceRun
section
-- Written by a program of this session (wip/tools/pp.sh) over the print of the kit.
namespace Go.Proofs.Ytjnnglphdaemaaa.Q
open Go.RowKit Go.Proofs.YtjnnglphdaemaaaW.PrintWords Go.Proofs.YtjnnglphdaemaaaW.PrintLast Go.Proofs.YtjnnglphdaemaaaW.PrintMore
attribute [local go_sem] max2_int min2_int max_two min_two max_three min_three max_four min_four   -- for this text's walks alone
set_option linter.unusedVariables false
set_option linter.unusedSimpArgs false
def impl_Head_80.f (k : Nat) (l0 : List (S28)) (a1_0 : Int) (a1_1 : ByteArray) : Option (Bool) := (impl_Head_115.f k l0 a1_0 a1_1).bind fun t602 => (some (decide (t602 ≥ 0)))
set_option maxHeartbeats 8000000 in
set_option maxRecDepth 100000 in
theorem impl_Head_80.calls (k : Nat) (A0 : Option Addr) (c0 : Nat) (l0 : List (S28)) (a1_0 : Int) (a1_1 : ByteArray) (r : Bool) (w : World) (hr0 : Kd.C k28 w A0 l0.length l0) (hc0 : l0.length ≤ c0) (h : impl_Head_80.f k l0 a1_0 a1_1 = some r) :
  Calls Try.prog 80 #[.slice A0 l0.length c0, .agg #[.int .i64 a1_0, .string a1_1]] w fun e w' => e = .returned (.bool r) ∧ Below w.heap.size w w' := by
 have hu28 := Try.underlying28
 have HR0 := Aside0.mk hr0
 have HC0 := Aside0.mk hc0
 clear hr0 hc0
 have HB := Aside0.mk (Below.refl w.heap.size w)
 have H : ((impl_Head_115.f k l0 a1_0 a1_1).bind fun t602 => (some (decide (t602 ≥ 0)))) = some r := h
 clear h
 replace H := bi_ H; obtain ⟨t602, A3, H⟩ := H
 obtain rfl := Option.some.inj H
 go_enter Try.func80, Try.ntmps80
 go_wp2_with (first | ((with_reducible refine gd_ 3 ?_); refine bx_ 3 28 #[.int .i64 a1_0, .string a1_1] ?_; intro gb601 hg w4 hbox hb; have BK601 := Aside0.mk hbox; have GW601 := gg_ hg HB; have GE601 := GW601; replace HB := ss_ HB hb; clear hb hbox hg; have hz5 := cz2_ BK601) | ((with_reducible refine gq_ 115 7 ?_); refine gc_ 7 Try.func115 (impl_Head_115.calls k _ _ l0 a1_0 a1_1 t602 _ (cb_ HR0 HB) HC0.out A3.out) ?_; rintro e w6 ⟨rfl, hb⟩; refine ⟨_, rfl, ?_⟩; replace BK601 := kl_ BK601 hb; replace HB := ss_ HB hb; clear hb))
 go_ret
 exact ⟨e2_, bw_ HB⟩
end Go.Proofs.Ytjnnglphdaemaaa.Q
end

section
-- Written by a program of this session (wip/tools/pp.sh) over the print of the kit.
namespace Go.Proofs.Ytjnnglphdaemaaa.Q
open Go.RowKit Go.Proofs.YtjnnglphdaemaaaW.PrintWords Go.Proofs.YtjnnglphdaemaaaW.PrintLast Go.Proofs.YtjnnglphdaemaaaW.PrintMore
attribute [local go_sem] max2_int min2_int max_two min_two max_three min_three max_four min_four   -- for this text's walks alone
set_option linter.unusedVariables false
set_option linter.unusedSimpArgs false
def impl_IsSigned.f (k : Nat) (l0 : List (S28)) (a1_0 : Int) (a1_1 : ByteArray) : Option (Bool) := (impl_Head_80.f k l0 a1_0 a1_1).bind fun t602 => (some t602)
set_option maxHeartbeats 8000000 in
set_option maxRecDepth 100000 in
theorem impl_IsSigned.calls (k : Nat) (A0 : Option Addr) (c0 : Nat) (l0 : List (S28)) (a1_0 : Int) (a1_1 : ByteArray) (r : Bool) (w : World) (hr0 : Kd.C k28 w A0 l0.length l0) (hc0 : l0.length ≤ c0) (h : impl_IsSigned.f k l0 a1_0 a1_1 = some r) :
  Calls Try.prog 22 #[.slice A0 l0.length c0, .agg #[.int .i64 a1_0, .string a1_1]] w fun e w' => e = .returned (.bool r) ∧ Below w.heap.size w w' := by
 have hu28 := Try.underlying28
 have HR0 := Aside0.mk hr0
 have HC0 := Aside0.mk hc0
 clear hr0 hc0
 have HB := Aside0.mk (Below.refl w.heap.size w)
 have H : ((impl_Head_80.f k l0 a1_0 a1_1).bind fun t602 => (some t602)) = some r := h
 clear h
 replace H := bi_ H; obtain ⟨t602, A3, H⟩ := H
 obtain rfl := Option.some.inj H
 go_enter Try.func22, Try.ntmps22
 go_wp2_with (first | ((with_reducible refine gd_ 3 ?_); refine bx_ 3 28 #[.int .i64 a1_0, .string a1_1] ?_; intro gb601 hg w4 hbox hb; have BK601 := Aside0.mk hbox; have GW601 := gg_ hg HB; have GE601 := GW601; replace HB := ss_ HB hb; clear hb hbox hg; have hz5 := cz2_ BK601) | ((with_reducible refine gq_ 80 7 ?_); refine gc_ 7 Try.func80 (impl_Head_80.calls k _ _ l0 a1_0 a1_1 t602 _ (cb_ HR0 HB) HC0.out A3.out) ?_; rintro e w6 ⟨rfl, hb⟩; refine ⟨_, rfl, ?_⟩; replace BK601 := kl_ BK601 hb; replace HB := ss_ HB hb; clear hb))
 go_ret
 exact ⟨e2_, bw_ HB⟩
end Go.Proofs.Ytjnnglphdaemaaa.Q
end

section
/- IsSigned, the program's and the reference's: whether a list of heads has one of this size and root. -/
namespace Go.Proofs.Ytjnnglphdaemaaa.Q
open Go.RowKit Go.Proofs.Ytjnnglphdaemaaa.B Go.Proofs.YtjnnglphdaemaaaW.PrintWords
def hasHead (l : List IHead) (a : Int) (b : ByteArray) : Bool := l.any fun x => x.f0 == a && (x.f1.toList == b.toList)
theorem rdI {l : List IHead} {i : Nat} {x : IHead} (h : l[i]? = some x) : rd_T28 l (i : Int) = x := by
 unfold rd_T28
 simp [List.getD_eq_getElem?_getD, h]
theorem next64 {i n : Nat} (h : i < n) (hn : n ≤ 9223372036854775807) : wrap64 ((i : Int) + 1) = ((i + 1 : Nat) : Int) := by
 rw [w64 (by omega) (by omega)]
 omega
theorem spec_IsSigned_ev (l : List IHead) (a : Int) (b : ByteArray) (hl : l.length ≤ 9223372036854775807) : Ev (fun k => spec_IsSigned.f k l a b) (hasHead l a b) := by
 have main : ∀ (d i : Nat), i + d = l.length → Ev (fun k => spec_IsSigned.l0 k l (i : Int) a b) (hasHead (l.drop i) a b) := by
  intro d
  induction d with
  | zero =>
   intro i hi
   refine Ev.step (f := fun _ => some false) (fun k => ?_) (Ev.one (Ev.now _) ?_)
   ·simp only [spec_IsSigned.l0]
    rw [if_neg (by omega)]
   ·rw [List.drop_of_length_le (by omega)]
    rfl
  | succ d ih =>
   intro i hi
   obtain ⟨x, hx⟩ := get_some (l := l) (i := i) (by omega)
   by_cases h : (x.f0 == a && (x.f1.toList == b.toList)) = true
   ·refine Ev.step (f := fun _ => some true) (fun k => ?_) (Ev.one (Ev.now _) ?_)
    ·simp only [spec_IsSigned.l0]
     rw [if_pos (by omega), if_pos (by omega), rdI hx, if_pos h]
    ·rw [drop_one hx]
     simp only [hasHead, List.any_cons, h, Bool.true_or]
   ·refine Ev.step (fun k => ?_) (Ev.one (ih (i + 1) (by omega)) ?_)
    ·simp only [spec_IsSigned.l0]
     rw [if_pos (by omega), if_pos (by omega), rdI hx, if_neg h, next64 (show i < l.length by omega) hl]
    ·rw [drop_one hx]
     simp only [hasHead, List.any_cons, Bool.eq_false_iff.mpr h, Bool.false_or]
 exact main l.length 0 (by omega)
theorem impl_Index_ev (l : List IHead) (a : Int) (b : ByteArray) (hl : l.length ≤ 9223372036854775807) : ∃ r, Ev (fun k => impl_Head_115.f k l a b) r ∧ decide (r ≥ 0) = hasHead l a b := by
 have main : ∀ (d i : Nat), i + d = l.length → ∃ r, Ev (fun k => impl_Head_115.l0 k l (l.length : Int) (i : Int) a b) r ∧ decide (r ≥ 0) = hasHead (l.drop i) a b := by
  intro d
  induction d with
  | zero =>
   intro i hi
   refine ⟨-1, Ev.step (f := fun _ => some (-1)) (fun k => ?_) (Ev.now _), ?_⟩
   ·simp only [impl_Head_115.l0]
    rw [if_neg (by omega)]
   ·rw [List.drop_of_length_le (by omega)]
    rfl
  | succ d ih =>
   intro i hi
   obtain ⟨x, hx⟩ := get_some (l := l) (i := i) (by omega)
   have hsym : (a == x.f0 && (b.toList == x.f1.toList)) = (x.f0 == a && (x.f1.toList == b.toList)) := by
    rw [Bool.beq_comm (a := a), Bool.beq_comm (a := b.toList)]
   by_cases h : (x.f0 == a && (x.f1.toList == b.toList)) = true
   ·refine ⟨(i : Int), Ev.step (f := fun _ => some (i : Int)) (fun k => ?_) (Ev.now _), ?_⟩
    ·simp only [impl_Head_115.l0]
     rw [if_pos (by omega), if_pos (by omega), if_pos (by omega), rdI hx, hsym, if_pos h]
    ·rw [drop_one hx]
     simp only [hasHead, List.any_cons, h, Bool.true_or]
     exact decide_eq_true (by omega)
   ·obtain ⟨r, h1, h2⟩ := ih (i + 1) (by omega)
    refine ⟨r, Ev.step (fun k => ?_) h1, ?_⟩
    ·simp only [impl_Head_115.l0]
     rw [if_pos (by omega), if_pos (by omega), if_pos (by omega), rdI hx, hsym, if_neg h, next64 (show i < l.length by omega) hl]
    ·rw [h2, drop_one hx]
     simp only [hasHead, List.any_cons, Bool.eq_false_iff.mpr h, Bool.false_or]
 obtain ⟨r, h1, h2⟩ := main l.length 0 (by omega)
 exact ⟨r, h1, h2⟩
theorem impl_IsSigned_ev (l : List IHead) (a : Int) (b : ByteArray) (hl : l.length ≤ 9223372036854775807) : Ev (fun k => impl_IsSigned.f k l a b) (hasHead l a b) := by
 obtain ⟨r, h1, h2⟩ := impl_Index_ev l a b hl
 refine Ev.congr (fun k => by unfold impl_IsSigned.f impl_Head_80.f; rfl) ?_
 refine Ev.bind (Ev.bind h1 (Ev.now _)) ?_
 rw [h2]
 exact Ev.now _
end Go.Proofs.Ytjnnglphdaemaaa.Q
end

section
/- slices.Grow of no texts by at least one: new room (bounds: what append takes). Its capacity's bound tells that there is no row. -/
namespace Go.Proofs.Ytjnnglphdaemaaa.Q
open Go.RowKit Go.Proofs.YtjnnglphdaemaaaW.PrintWords Go.Proofs.YtjnnglphdaemaaaW.PrintLast Go.Proofs.YtjnnglphdaemaaaW.PrintMore
set_option linter.unusedVariables false
set_option linter.unusedSimpArgs false
def slices_Grow_string_string.f (l0 : List ByteArray) (a1 : Int) : Option (List ByteArray) := if l0.length = 0 ∧ 1 ≤ a1 ∧ a1 ≤ 1000000000 then some [] else none
theorem slices_Grow_string_string.info : (Try.prog.info? 9).map (fun i => (i.zero, i.size, i.bytes)) = some (some (.string ⟨#[]⟩), 1, 16) := by kernel_rfl
def rowOf : Option Addr → Nat
 | none => 0
 | some _ => 1
set_option maxHeartbeats 1000000 in
set_option maxRecDepth 100000 in
theorem slices_Grow_string_string.calls (A0 : Option Addr) (c0 : Nat) (l0 : List ByteArray) (a1 : Int) (r : List ByteArray) (w : World) (hr0 : Kd.C Kd.string w A0 l0.length l0) (hc0 : rowOf A0 + c0 ≤ 0) (h : slices_Grow_string_string.f l0 a1 = some r) :
  Calls Try.prog 127 #[.slice A0 l0.length c0, .int .i64 a1] w fun e w' => ∃ v0_ : Value, e = .returned (v0_) ∧ Kd.R Kd.string 9 w' w.heap.size (fun _ => True) v0_ r ∧ Below w.heap.size w w' := by
 unfold slices_Grow_string_string.f at h
 by_cases hl : l0.length = 0 ∧ 1 ≤ a1 ∧ a1 ≤ 1000000000
 ·rw [if_pos hl] at h
  obtain rfl := Option.some.inj h
  obtain ⟨h0, h1, h2⟩ := hl
  have hA : A0 = none := by
   cases A0 with
   | none => rfl
   | some x => simp [rowOf] at hc0
  subst hA
  have hc : c0 = 0 := by
   simp only [rowOf] at hc0
   omega
  subst hc
  obtain rfl := List.eq_nil_of_length_eq_zero h0
  clear hr0 hc0 h h0
  have LM := Aside0.mk h2
  have L1 := Aside0.mk h1
  have c1 : decide (a1 < 0) = false := decide_eq_false (by omega)
  have hw : wrap64 (a1 - 0) = a1 := by
   rw [Int.sub_zero]
   unfold wrap64
   omega
  have hw2 : wrap64 a1 = a1 := by
   unfold wrap64
   omega
  have c2 : decide (0 < a1) = true := decide_eq_true (by omega)
  clear h1 h2
  have KEY := Aside0.mk (fun (o : Oper) (a : Act) (ops : Array Oper) (rest : List Oper) (Q : Exit → Act → World → Prop) (ho : o.op = .call { callee := .builtin .append, args := #[.tmp 20, .tmp 21], argTypes := #[24, 3] }) (hg : o.guard = none) (hx1 : a.eval (.tmp 20) = .slice none 0 0) (hx2 : a.eval (.tmp 21) = .int .i64 a1) => Kd.R_append_zeros (P := Try.prog) (o := o) (a := a) (ops := ops) (rest := rest) (Q := Q) Kd.string (w0 := w) w.heap.size hg (.tmp 20) (.tmp 21) 24 3 9 (.string ⟨#[]⟩) 16 ho Try.underlying24 Try.underlying3 slices_Grow_string_string.info rfl (by decide) (by omega) (.slice none 0 0) [] ByteArray.empty a1 (fun _ => True) hx1 hx2 rfl (fun _ _ => trivial) (Kd.R_nil _ _ _ _ _) (by have := L1.out; omega) (Below.refl _ _) (Nat.le_refl _) (by have := LM.out; simp only [List.length_nil]; omega))
  go_enter Try.func127, Try.ntmps127
  go_wp2_with (at_builtin; refine KEY.out _ _ _ _ _ rfl rfl ?aS ?aX ?_; (case aS => first | rfl | (go_simp; done) | (go_simp; rfl)); (case aX => first | rfl | (simp [hw2, hw]; done) | (go_simp; done) | (go_simp; rfl)); intro v1 w1 ho hb hg hat; obtain ⟨A1, k1, e1⟩ := Kd.R_slice ho; subst e1; have HO := Aside0.mk ho; have HB := Aside0.mk hb; clear ho hb hg hat)
  go_ret
  exact ⟨_, e2_, Kd.R_take (m := 0) HO.out (Nat.zero_le _), HB.out⟩
 ·rw [if_neg hl] at h
  cases h
end Go.Proofs.Ytjnnglphdaemaaa.Q
end

section
-- Written by a program of this session (wip/tools/pp.sh) over the print of the kit.
namespace Go.Proofs.Ytjnnglphdaemaaa.Q
open Go.RowKit Go.Proofs.YtjnnglphdaemaaaW.PrintWords Go.Proofs.YtjnnglphdaemaaaW.PrintLast Go.Proofs.YtjnnglphdaemaaaW.PrintMore
attribute [local go_sem] max2_int min2_int max_two min_two max_three min_three max_four min_four   -- for this text's walks alone
set_option linter.unusedVariables false
set_option linter.unusedSimpArgs false
mutual
def slices_Concat_string_string.l0 : Nat → List (List ByteArray) → Int → List (List ByteArray) → Int → Int → Option (List ByteArray)
 | 0, _, _, _, _, _ => none
 | k + 1, x0, x3, x9, x10, x11 => if x11 < x10 then (if 0 ≤ x11 then (if x11 < (x9.length : Int) then (if (wrap64 (x3 + ((rd_L4 x9 x11).length : Int))) < 0 then (none) else (slices_Concat_string_string.l0 k x0 (wrap64 (x3 + ((rd_L4 x9 x11).length : Int))) x9 x10 (wrap64 (x11 + 1)))) else (none)) else (none)) else ((slices_Grow_string_string.f ([] : List ByteArray) x3).bind fun t602 => (slices_Concat_string_string.l1 k t602 x0 (x0.length : Int) 0))
def slices_Concat_string_string.l1 : Nat → List ByteArray → List (List ByteArray) → Int → Int → Option (List ByteArray)
 | 0, _, _, _, _ => none
 | k + 1, x6, x25, x26, x27 => if x27 < x26 then (if 0 ≤ x27 then (if x27 < (x25.length : Int) then (if x6.length + (rd_L4 x25 x27).length < 8796093022208 then (slices_Concat_string_string.l1 k (x6 ++ (rd_L4 x25 x27)) x25 x26 (wrap64 (x27 + 1))) else (none)) else (none)) else (none)) else (some x6)
end
def slices_Concat_string_string.f (k : Nat) (l0 : List (List ByteArray)) : Option (List ByteArray) := slices_Concat_string_string.l0 k l0 0 l0 (l0.length : Int) 0
set_option maxHeartbeats 8000000 in
set_option maxRecDepth 100000 in
theorem slices_Concat_string_string.calls (k : Nat) (A0 : Option Addr) (c0 : Nat) (l0 : List (List ByteArray)) (r : List ByteArray) (w : World) (hr0 : Kd.C (Kd.slice 9 Kd.string) w A0 l0.length l0) (hc0 : l0.length ≤ c0) (h : slices_Concat_string_string.f k l0 = some r) :
  Calls Try.prog 106 #[.slice A0 l0.length c0] w fun e w' => ∃ v0_ : Value, e = .returned (v0_) ∧ Kd.R Kd.string 9 w' w.heap.size (fun _ => True) v0_ r ∧ Below w.heap.size w w' := by
 have HR0 := Aside0.mk hr0
 have HC0 := Aside0.mk hc0
 clear hr0 hc0
 have HB := Aside0.mk (Below.refl w.heap.size w)
 have H : (slices_Concat_string_string.l0 k l0 0 l0 (l0.length : Int) 0) = some r := h
 clear h
 have H' := Aside0.mk H
 clear H
 go_enter Try.func106, Try.ntmps106
 go_wp2
 go_loopg [3, 11] k (fun kq v3 v11 w' => ∃ (x3_1 : Int) (x11_1 : Int), v3 = .int .i64 x3_1 ∧ v11 = .int .i64 x11_1 ∧ Aside0 (slices_Concat_string_string.l0 kq l0 x3_1 l0 (l0.length : Int) x11_1 = some r) ∧ Aside0 (kq ≤ k) ∧ Aside0 (Below w.heap.size w w'))
 case atStart => exact ⟨(0), (0), e1_, e1_, H', ⟨Nat.le_refl _⟩, ⟨bw_ HB⟩⟩
 case round =>
  clear H'
  obtain ⟨x3_1, x11_1, rfl, rfl, HA, HK1, HB⟩ := hrel
  cases gk with
  | zero => exact absurd HA.out (by simp [slices_Concat_string_string.l0])
  | succ k1 =>
   have H := HA.out
   clear HA
   simp only [slices_Concat_string_string.l0] at H
   replace H := itd_ H; obtain ⟨c2b0, H⟩ | ⟨c2b0, H⟩ := H
   ·replace H := ipd_ H; obtain ⟨c3b0, H⟩ := H
    replace H := ipd_ H; obtain ⟨c4b0, H⟩ := H
    replace H := ind_ H; obtain ⟨c5b0, H⟩ := H
    have H' := Aside0.mk H
    clear H
    have p601 : 0 ≤ (x11_1 : Int) := of_decide_eq_true as_
    have q601 : x11_1 < (l0.length : Int) := of_decide_eq_true as_
    obtain ⟨ad601, A601_0, c601_0, e601, hx601_0, hl601_0, hi601_0⟩ := at_L4 HR0.out x11_1 p601 q601
    cases e601
    replace hx601_0 := (HB.out.cell (World.block_lt_of_cell? w _ hx601_0)).trans hx601_0
    have HR601_0 := Aside0.mk hi601_0
    have HC601_0 := Aside0.mk hl601_0
    clear hi601_0 hl601_0
    replace p601 := eq_true p601
    replace q601 := eq_true q601
    go_wp2
    go_roundg k1
    case measure => have := HK1.out; omega
    case rel => exact ⟨(wrap64 (x3_1 + ((rd_L4 l0 x11_1).length : Int))), (wrap64 (x11_1 + 1)), e1_, e1_, H', ⟨by have := HK1.out; omega⟩, ⟨bw_ HB⟩⟩
   ·replace H := bi_ H; obtain ⟨t602, A6, H⟩ := H
    have H' := Aside0.mk H
    clear H
    go_wp2_with (first | ((with_reducible refine gk_ 127 ?_); refine gl_ 24 Try.func127 #[.slice none 0 0, .int .i64 x3_1] ?_; (refine (slices_Grow_string_string.calls _ _ ([] : List ByteArray) x3_1 t602 _ ?side1 ?side2 A6.out).mono ?_); (case side1 => exact Kd.C_nil _ _); (case side2 => exact Nat.le_refl _); rintro e w7 ⟨v603, rfl, ho0, hb⟩; refine ⟨_, rfl, ?_⟩; have HO604 := Aside0.mk (Kd.R_lower ho0 (sz_ HB)); replace HB := ss_ HB hb; clear hb ho0))
    go_loopg [6, 27] k1 (fun kq v6 v27 w' => ∃ (x6_2 : List ByteArray) (x27_2 : Int), v27 = .int .i64 x27_2 ∧ Aside0 (slices_Concat_string_string.l1 kq x6_2 l0 (l0.length : Int) x27_2 = some r) ∧ Aside0 (kq ≤ k1) ∧ Aside0 (Kd.R Kd.string 9 w' w.heap.size (fun _ => True) v6 x6_2) ∧ Aside0 (Below w.heap.size w w'))
    case atStart => exact ⟨(t602), (0), e1_, H', ⟨Nat.le_refl _⟩, ⟨kr_ HO604.out⟩, ⟨bw_ HB⟩⟩
    case round =>
     clear H'
     try clear c1
     try clear c2b0
     obtain ⟨x6_2, x27_2, rfl, HA, HK2, HO_6, HB⟩ := hrel
     cases gk with
     | zero => exact absurd HA.out (by simp [slices_Concat_string_string.l1])
     | succ k2 =>
      have H := HA.out
      clear HA
      simp only [slices_Concat_string_string.l1] at H
      replace H := itd_ H; obtain ⟨c8b0, H⟩ | ⟨c8b0, H⟩ := H
      ·replace H := ipd_ H; obtain ⟨c9b0, H⟩ := H
       replace H := ipd_ H; obtain ⟨c10b0, H⟩ := H
       replace H := ip_ H; obtain ⟨c11, H⟩ := H
       have LMc11 := Aside0.mk c11
       clear c11
       obtain ⟨y606, hy606⟩ : ∃ y_ : List ByteArray, y_ = (x6_2 ++ (rd_L4 l0 x27_2)) := ⟨_, rfl⟩
       replace H : (slices_Concat_string_string.l1 k2 y606 l0 (l0.length : Int) (wrap64 (x27_2 + 1))) = some r := yh_ hy606 H
       have Ny606 := Aside0.mk hy606
       clear hy606
       have H' := Aside0.mk H
       clear H
       have p605 : 0 ≤ (x27_2 : Int) := of_decide_eq_true as_
       have q605 : x27_2 < (l0.length : Int) := of_decide_eq_true as_
       obtain ⟨ad605, A605_0, c605_0, e605, hx605_0, hl605_0, hi605_0⟩ := at_L4 HR0.out x27_2 p605 q605
       cases e605
       replace hx605_0 := (HB.out.cell (World.block_lt_of_cell? w _ hx605_0)).trans hx605_0
       have HR605_0 := Aside0.mk hi605_0
       have HC605_0 := Aside0.mk hl605_0
       clear hi605_0 hl605_0
       replace p605 := eq_true p605
       replace q605 := eq_true q605
       go_wp2_with (first | ((with_reducible refine gate_builtin (b := .append) (xs := #[.tmp 31, .tmp 32]) rfl ?_); at_builtin; refine Kd.R_append_rows Kd.string (w0 := w) w.heap.size rfl (.tmp 31) (.tmp 32) 24 9 (.string ⟨#[]⟩) 16 rfl Try.underlying24 info9 rfl (by decide) (by omega) u6 x6_2 (rd_L4 l0 x27_2) _ _ _ (fun _ => True) (fun _ => False) rfl rfl ?aO ?aR (fun _ _ h => h) (fun _ h => h.elim) ?aF ?aB ?aS ?aL ?_; (case aR => exact cb_ HR605_0 HB); (case aB => exact (bw_ HB)); (case aF => exact (fun _ _ => trivial)); (case aO => exact (kr_ HO_6.out)); (case aS => exact (sz_ HB)); (case aL => have := LMc11.out; omega); intro v607 w12 ho hb hg hat; rw [← Ny606.out] at ho; replace HB := Aside0.mk hb; have HO608 := Aside0.mk ho; clear HO_6; clear ho hb hg hat))
       go_roundg k2
       case measure => have := HK1.out; have := HK2.out; omega
       case rel => exact ⟨(y606), (wrap64 (x27_2 + 1)), e1_, H', ⟨by have := HK1.out; have := HK2.out; omega⟩, ⟨kr_ HO608.out⟩, ⟨bw_ HB⟩⟩
      ·obtain rfl := Option.some.inj H
       go_wp2
       go_ret
       exact ⟨_, e2_, kr_ HO_6.out, bw_ HB⟩
end Go.Proofs.Ytjnnglphdaemaaa.Q
end

section
/- slices.Concat of two lists of texts: the one behind the other. -/
namespace Go.Proofs.Ytjnnglphdaemaaa.Q
open Go.RowKit Go.Proofs.Ytjnnglphdaemaaa.B Go.Proofs.YtjnnglphdaemaaaW.PrintWords
theorem one64 : wrap64 (0 + 1) = 1 := by rw [w64 (by omega) (by omega)]; rfl
theorem two64 : wrap64 (1 + 1) = 2 := by rw [w64 (by omega) (by omega)]; rfl
theorem concat_l1 (a b : List ByteArray) (h : a.length + b.length ≤ 1000000000) : Ev (fun k => slices_Concat_string_string.l1 k [] [a, b] 2 0) (a ++ b) := by
 have ea : rd_L4 [a, b] 0 = a := rfl
 have eb : rd_L4 [a, b] 1 = b := rfl
 refine Ev.step (fun k => by simp only [slices_Concat_string_string.l1]; rfl) ?_
 rw [ea, one64]
 refine Ev.pos (by omega) (Ev.pos (by omega) (Ev.pos (by simp) (Ev.pos (by simp; omega) ?_)))
 refine Ev.step (fun k => by simp only [slices_Concat_string_string.l1]; rfl) ?_
 rw [eb, two64]
 refine Ev.pos (by omega) (Ev.pos (by omega) (Ev.pos (by simp) (Ev.pos (by simp; omega) ?_)))
 refine Ev.step (fun k => by simp only [slices_Concat_string_string.l1]; rfl) ?_
 exact Ev.neg (by omega) (Ev.one (Ev.now _) rfl)
theorem concat_ev (a b : List ByteArray) (h : a.length + b.length ≤ 1000000000) (h1 : 1 ≤ a.length + b.length) : Ev (fun k => slices_Concat_string_string.f k [a, b]) (a ++ b) := by
 have ea : rd_L4 [a, b] 0 = a := rfl
 have eb : rd_L4 [a, b] 1 = b := rfl
 have e2 : (([a, b] : List (List ByteArray)).length : Int) = 2 := rfl
 have hg : slices_Grow_string_string.f [] ((a.length : Int) + (b.length : Int)) = some [] := by
  unfold slices_Grow_string_string.f
  rw [if_pos ⟨rfl, by omega, by omega⟩]
 unfold slices_Concat_string_string.f
 refine Ev.step (fun k => by simp only [slices_Concat_string_string.l0]; rfl) ?_
 rw [ea, e2, w64 (x := 0 + (a.length : Int)) (by omega) (by omega), one64, Int.zero_add]
 refine Ev.pos (by omega) (Ev.pos (by omega) (Ev.pos (by omega) (Ev.neg (by omega) ?_)))
 refine Ev.step (fun k => by simp only [slices_Concat_string_string.l0]; rfl) ?_
 rw [eb, e2, w64 (x := (a.length : Int) + (b.length : Int)) (by omega) (by omega), two64]
 refine Ev.pos (by omega) (Ev.pos (by omega) (Ev.pos (by omega) (Ev.neg (by omega) ?_)))
 refine Ev.step (fun k => by simp only [slices_Concat_string_string.l0]; rfl) ?_
 rw [e2]
 exact Ev.neg (by omega) (Ev.bind (Ev.const hg) (concat_l1 a b h))
end Go.Proofs.Ytjnnglphdaemaaa.Q
end

section
/- slices.Clone of texts: the same list in new memory (bounds: what append takes). -/
namespace Go.Proofs.Ytjnnglphdaemaaa.Q
open Go.RowKit Go.Proofs.YtjnnglphdaemaaaW.PrintWords Go.Proofs.YtjnnglphdaemaaaW.PrintLast Go.Proofs.YtjnnglphdaemaaaW.PrintMore
set_option linter.unusedVariables false
set_option linter.unusedSimpArgs false
def slices_Clone_string_string.f (l0 : List ByteArray) : Option (List ByteArray) := if l0.length ≤ 8796093022208 then some l0 else none
theorem slices_Clone_string_string.info : (Try.prog.info? 9).map (fun i => (i.zero, i.size, i.bytes)) = some (some (.string ⟨#[]⟩), 1, 16) := by kernel_rfl
set_option maxHeartbeats 1000000 in
set_option maxRecDepth 100000 in
theorem slices_Clone_string_string.calls (A0 : Option Addr) (c0 : Nat) (l0 : List ByteArray) (r : List ByteArray) (w : World) (hr0 : Kd.C Kd.string w A0 l0.length l0) (hc0 : l0.length ≤ c0) (h : slices_Clone_string_string.f l0 = some r) :
  Calls Try.prog 105 #[.slice A0 l0.length c0] w fun e w' => ∃ v0_ : Value, e = .returned (v0_) ∧ Kd.R Kd.string 9 w' w.heap.size (fun _ => True) v0_ r ∧ Below w.heap.size w w' := by
 unfold slices_Clone_string_string.f at h
 by_cases hl : l0.length ≤ 8796093022208
 ·rw [if_pos hl] at h
  obtain rfl := Option.some.inj h
  have LM := Aside0.mk hl
  have HR0 := Aside0.mk hr0
  have HC0 := Aside0.mk hc0
  have hn := fun W : World => Lib.run_eql_slice_nil (P := Try.prog) W 24 9 A0 l0.length c0 0 0 Try.underlying24
  clear hl h hc0
  cases A0 with
  | none =>
   have h0 : l0 = [] := by
    rcases Nat.eq_zero_or_pos l0.length with hz | hz
    ·exact List.eq_nil_of_length_eq_zero hz
    ·obtain ⟨ad, he, _⟩ := hr0.2.2 hz
     cases he
   subst h0
   clear hr0 hn
   have hn2 := fun W : World => Lib.run_eql_slice_nil (P := Try.prog) W 24 9 none 0 c0 0 0 Try.underlying24
   go_enter Try.func105, Try.ntmps105
   go_wp2
   go_ret
   exact ⟨_, rfl, Kd.R_nil _ _ _ _ _, Below.refl _ _⟩
  | some ad =>
   clear hr0
   go_enter Try.func105, Try.ntmps105
   go_wp2_with (first | ((with_reducible refine gate_dst (N := 5) rfl ?_); refine Kd.R_lit Kd.string _ 9 ?hg (N := 5) ?hd (w0 := w) (xs := ([] : List ByteArray)) (inner := []) (ok := fun _ => True) (okp := fun _ => True) ?hr ?hp (fun _ hk => hk) trivial (Below.refl _ _) (Nat.le_refl _) (by simp) ?_; (case hd => rfl); (case hg => rfl); (case hr => first | (go_simp; done) | (go_simp; rfl)); (case hp => exact (Reps.none _ _)); intro v1 w4 ho5 hb hg_ hnew_; clear hg_ hnew_; have HO := Aside0.mk ho5; have HB := Aside0.mk hb; clear ho5 hb) | ((with_reducible refine gate_builtin (b := .append) (xs := #[.tmp 5, .tmp 6]) rfl ?_); at_builtin; refine Kd.R_append_rows Kd.string (w0 := w) w.heap.size rfl (.tmp 5) (.tmp 6) 24 9 (.string ⟨#[]⟩) 16 rfl Try.underlying24 slices_Clone_string_string.info rfl (by decide) (by omega) v1 [] l0 _ _ _ (fun _ => True) (fun _ => False) rfl rfl ?aO ?aR (fun _ _ h => h) (fun _ h => h.elim) ?aF ?aB ?aS ?aL ?_; (case aR => exact Kd.C_below HR0.out HB.out); (case aB => exact HB.out); (case aF => exact (fun _ _ => trivial)); (case aO => exact HO.out); (case aS => exact HB.out.size); (case aL => have := LM.out; simp only [List.length_nil]; omega); intro v2 w6 ho hb hg hat; have HO2 := Aside0.mk ho; have HB2 := Aside0.mk hb; clear ho hb hg hat))
   go_ret
   exact ⟨_, rfl, by simpa using HO2.out, HB2.out⟩
 ·rw [if_neg hl] at h
  cases h
end Go.Proofs.Ytjnnglphdaemaaa.Q
end

section
-- Written by a program of this session (wip/tools/pp.sh) over the print of the kit.
namespace Go.Proofs.Ytjnnglphdaemaaa.Q
open Go.RowKit Go.Proofs.YtjnnglphdaemaaaW.PrintWords Go.Proofs.YtjnnglphdaemaaaW.PrintLast Go.Proofs.YtjnnglphdaemaaaW.PrintMore
attribute [local go_sem] max2_int min2_int max_two min_two max_three min_three max_four min_four   -- for this text's walks alone
set_option linter.unusedVariables false
set_option linter.unusedSimpArgs false
def impl_copyLog.f (l0_0 : List ByteArray) (a0_1 : Int) (a0_2 : ByteArray) : Option (List ByteArray × Int × ByteArray) := (slices_Clone_string_string.f l0_0).bind fun t603 => (some (t603, a0_1, a0_2))
set_option maxHeartbeats 8000000 in
set_option maxRecDepth 100000 in
theorem impl_copyLog.calls (A0_0 : Option Addr) (c0_0 : Nat) (l0_0 : List ByteArray) (a0_1 : Int) (a0_2 : ByteArray) (r1 : List ByteArray) (r2 : Int) (r3 : ByteArray) (w : World) (hr0_0 : Kd.C Kd.string w A0_0 l0_0.length l0_0) (hc0_0 : l0_0.length ≤ c0_0) (h : impl_copyLog.f l0_0 a0_1 a0_2 = some (r1, r2, r3)) :
  Calls Try.prog 63 #[.agg #[.slice A0_0 l0_0.length c0_0, .int .i64 a0_1, .string a0_2]] w fun e w' => ∃ v0_ : Value, e = .returned (.agg #[v0_, .int .i64 r2, .string r3]) ∧ Kd.R Kd.string 9 w' w.heap.size (fun _ => True) v0_ r1 ∧ Below w.heap.size w w' := by
 have hu31 := Try.underlying31
 have HR0_0 := Aside0.mk hr0_0
 have HC0_0 := Aside0.mk hc0_0
 clear hr0_0 hc0_0
 have HB := Aside0.mk (Below.refl w.heap.size w)
 have H : ((slices_Clone_string_string.f l0_0).bind fun t603 => (some (t603, a0_1, a0_2))) = some (r1, r2, r3) := h
 clear h
 replace H := bi_ H; obtain ⟨t603, A2, H⟩ := H
 replace H := so3_ H; obtain ⟨rfl, rfl, rfl⟩ := H
 go_enter Try.func63, Try.ntmps63
 go_wp2_with (first | ((with_reducible refine gd_ 1 ?_); refine bx_ 1 31 #[.slice A0_0 l0_0.length c0_0, .int .i64 a0_1, .string a0_2] ?_; intro gb601 hg w3 hbox hb; have BK601 := Aside0.mk hbox; have GW601 := gg_ hg HB; have GE601 := GW601; replace HB := ss_ HB hb; clear hb hbox hg) | ((with_reducible refine gd_ 2 ?_); refine bx_ 2 31 #[.slice none 0 0, .int .i64 0, .string (⟨#[]⟩ : ByteArray)] ?_; intro gb602 hg w4 hbox hb; have BK602 := Aside0.mk hbox; have GW602 := gg_ hg HB; have GE602 := GW602; replace HB := ss_ HB hb; have NB601_602 := nla_ hg BK601; have NB602_601 := nga_ hg BK601; replace BK601 := kl_ BK601 hb; clear hb hbox hg; have hnb5 := NB601_602.out; have hnc5 := NB602_601.out; have hz6 := cz3_ BK601) | ((with_reducible refine gq_ 105 5 ?_); refine gc_ 5 Try.func105 (slices_Clone_string_string.calls _ _ l0_0 t603 _ (cb_ HR0_0 HB) HC0_0.out A2.out) ?_; rintro e w7 ⟨v604, rfl, ho0, hb⟩; refine ⟨_, rfl, ?_⟩; have HO605 := Aside0.mk (Kd.R_lower ho0 (sz_ HB)); replace BK601 := kl_ BK601 hb; replace BK602 := kl_ BK602 hb; replace HB := ss_ HB hb; clear hb ho0; obtain ⟨Ao8, co8, eo8⟩ := Kd.R_slice HO605.out; subst eo8; have hz9 := cz3_ BK601; have hz10 := cz3_ BK602))
 refine bodyPost_ret (results_cell_row rfl _ _ gb602 31 #[.slice Ao8 t603.length co8, .int .i64 a0_1, .string a0_2] (0, 0) _ rfl (by exact kq_ BK602) Try.underlying31 rfl (by kernel_rfl)) rfl ?_
 exact ⟨_, e2_, by (with_reducible repeat (first | apply Kd.R_alloc | apply Kd.R_drewN | apply Kd.R_drew)); exact Kd.R_mono (Kd.R_far (p := ⟨gb602, 2, none⟩) (Kd.R_far (p := ⟨gb602, 1, none⟩) (Kd.R_far (p := ⟨gb602, 0, none⟩) (Kd.R_far (p := ⟨gb601, 0, none⟩) (Kd.R_types (Kd.R_types HO605.out BK601.out (by decide)) BK602.out (by decide)) (fun _ hk => hk.1.2) (.slice Ao8 t603.length co8)) (fun _ hk => hk.2) (.slice Ao8 t603.length co8)) (fun _ hk => hk.2) (.int .i64 a0_1)) (fun _ hk => hk.2) (.string a0_2)) (fun _ hk => trivial), bw_ HB⟩
end Go.Proofs.Ytjnnglphdaemaaa.Q
end

section
-- Written by a program of this session (wip/tools/pp.sh) over the print of the kit.
namespace Go.Proofs.Ytjnnglphdaemaaa.Q
open Go.RowKit Go.Proofs.YtjnnglphdaemaaaW.PrintWords Go.Proofs.YtjnnglphdaemaaaW.PrintLast Go.Proofs.YtjnnglphdaemaaaW.PrintMore
attribute [local go_sem] max2_int min2_int max_two min_two max_three min_three max_four min_four   -- for this text's walks alone
set_option linter.unusedVariables false
set_option linter.unusedSimpArgs false
def spec_l11Copy.f (l0_0 : List ByteArray) (a0_1 : Int) (a0_2 : ByteArray) : Option (List ByteArray × Int × ByteArray) := (some (([] : List ByteArray) : List ByteArray)).bind fun y603 => (if y603.length + l0_0.length < 8796093022208 then (some ((y603 ++ l0_0), a0_1, a0_2)) else (none))
def spec_l11Copy.T1 : Bool × List (List Nat × List Nat) := (true, [([], []), ([], []), ([1], [1]), ([0, 2], [0, 2]), ([], []), ([4], [4]), ([3, 5], [3, 5]), ([6, 3, 0, 1, 2, 3, 4, 5, 6], [6])])
def spec_l11Copy.B1 : List Nat := [0, 0, 2, 7, 0, 16, 63, 127]
theorem spec_l11Copy.tab1 : rtab .any (opsOf Try.f76 1) = spec_l11Copy.T1 := by kernel_rfl
theorem spec_l11Copy.bits1 : waitsOk spec_l11Copy.T1.2 spec_l11Copy.B1 = true := by kernel_rfl
set_option maxHeartbeats 8000000 in
set_option maxRecDepth 100000 in
theorem spec_l11Copy.calls (A0_0 : Option Addr) (c0_0 : Nat) (l0_0 : List ByteArray) (a0_1 : Int) (a0_2 : ByteArray) (r1 : List ByteArray) (r2 : Int) (r3 : ByteArray) (w : World) (hr0_0 : Kd.C Kd.string w A0_0 l0_0.length l0_0) (hc0_0 : l0_0.length ≤ c0_0) (h : spec_l11Copy.f l0_0 a0_1 a0_2 = some (r1, r2, r3)) :
  Calls Try.prog 76 #[.agg #[.slice A0_0 l0_0.length c0_0, .int .i64 a0_1, .string a0_2]] w fun e w' => ∃ v0_ : Value, e = .returned (.agg #[v0_, .int .i64 r2, .string r3]) ∧ Kd.R Kd.string 9 w' w.heap.size (fun _ => True) v0_ r1 ∧ Below w.heap.size w w' := by
 have hu31 := Try.underlying31
 have hu28 := Try.underlying28
 have HR0_0 := Aside0.mk hr0_0
 have HC0_0 := Aside0.mk hc0_0
 clear hr0_0 hc0_0
 have HB := Aside0.mk (Below.refl w.heap.size w)
 have H : ((some (([] : List ByteArray) : List ByteArray)).bind fun y603 => (if y603.length + l0_0.length < 8796093022208 then (some ((y603 ++ l0_0), a0_1, a0_2)) else (none))) = some (r1, r2, r3) := h
 clear h
 obtain ⟨y603, Ny603, H⟩ := sb_ (([] : List ByteArray)) H
 replace H := ip_ H; obtain ⟨c2, H⟩ := H
 have LMc2 := Aside0.mk c2
 clear c2
 obtain ⟨y606, hy606⟩ : ∃ y_ : List ByteArray, y_ = (y603 ++ l0_0) := ⟨_, rfl⟩
 replace H : (some (y606, a0_1, a0_2)) = some (r1, r2, r3) := yh_ hy606 H
 have Ny606 := Aside0.mk hy606
 clear hy606
 replace H := so3_ H; obtain ⟨rfl, rfl, rfl⟩ := H
 go_enter Try.func76, Try.ntmps76
 try go_wp2_with (first | ((with_reducible refine gd_ 1 ?_); refine bx_ 1 31 #[.slice A0_0 l0_0.length c0_0, .int .i64 a0_1, .string a0_2] ?_; intro gb601 hg w3 hbox hb; have BK601 := Aside0.mk hbox; have GW601 := gg_ hg HB; have GE601 := GW601; replace HB := ss_ HB hb; clear hb hbox hg) | ((with_reducible refine gd_ 2 ?_); refine bx_ 2 31 #[.slice none 0 0, .int .i64 0, .string (⟨#[]⟩ : ByteArray)] ?_; intro gb602 hg w4 hbox hb; have BK602 := Aside0.mk hbox; have GW602 := gg_ hg HB; have GE602 := GW602; replace HB := ss_ HB hb; have NB601_602 := nla_ hg BK601; have NB602_601 := nga_ hg BK601; replace BK601 := kl_ BK601 hb; clear hb hbox hg))
 replace BK601 := Aside0.mk (blk_drew BK601.out)
 replace BK602 := Aside0.mk (blk_drew BK602.out)
 replace HB := Aside0.mk (below_drew1 HB.out)
 refine start_ (n := 8) (S := fun w' => w'.cell? ⟨gb601, 0, none⟩ = some (.slice A0_0 l0_0.length c0_0) ∧ w'.cell? ⟨gb601, 1, none⟩ = some (.int .i64 a0_1) ∧ w'.cell? ⟨gb601, 2, none⟩ = some (.string a0_2)) (ds := []) (lz_ 8 0) (by kernel_rfl) rfl rfl ⟨bc0_ BK601.out, bc1_ BK601.out, bc2_ BK601.out⟩ (fun hHeld => ?_); refine with_tabW spec_l11Copy.tab1 spec_l11Copy.bits1 (fun HT_ HW_ => ?_)
 generalize w4.drew = w5 at BK601 BK602 HB hHeld ⊢
 refine pt_ 1 4 2 ?_
 refine pt_ 4 7 18 ?_
 refine tt_ 2 5 22 ?_
 refine tt_ 5 8 54 ?_
 refine one_ (i := 0) (N := some 3) (lz_ 8 55) rfl rfl (one_of HT_.out (by kernel_rfl)) (by decide) (fun K hK => ?_)
 refine Kd.R_lit_step Kd.string _ 9 ?hg (N := 3) ?hd (xs := ([] : List ByteArray)) (inner := []) (ok := fun _ => True) (okp := fun _ => True) ?hr ?hp (fun _ hk => hk) trivial (Below.refl _ _) (Nat.le_refl _) (by simp) ?_; (case hd => rfl); (case hg => rfl); (case hr => first | (go_simp; done) | (go_simp; rfl)); (case hp => exact (Reps.none _ _))
 intro v604 w6 ho7 hb hg_ hnew_
 clear hg_ hnew_
 (first | rw [← Ny603.out] at ho7 | (simp only [Int.reduceToNat] at ho7; rw [← Ny603.out] at ho7))
 have HO605 := Aside0.mk (Kd.R_lower ho7 (sz_ HB))
 replace BK601 := kl_ BK601 hb
 replace BK602 := kl_ BK602 hb
 replace HB := ss_ HB hb
 clear hb ho7
 refine hK.out _ _ ⟨bc0_ BK601.out, bc1_ BK601.out, bc2_ BK601.out⟩ (fun hHeld => ?_)
 clear hK K
 refine no_ 3 ?_
 refine one_ (i := 3) (N := some 6) (lz_ 8 63) rfl rfl (one_of HT_.out (by kernel_rfl)) (by decide) (fun K hK => ?_)
 refine Kd.R_append_rows_step Kd.string (w0 := w) w.heap.size (by rfl) (.tmp 3) (.tmp 5) 24 9 (.string ⟨#[]⟩) 16 rfl Try.underlying24 info9 rfl (by decide) (by omega) v604 y603 l0_0 _ _ _ (fun _ => True) (fun _ => False) rfl rfl ?aO ?aR (fun _ _ h => h) (fun _ h => h.elim) ?aF ?aB ?aS ?aL ?_
 (case aR => exact cb_ HR0_0 HB)
 (case aB => exact (bw_ HB))
 (case aF => exact (fun _ _ => trivial))
 (case aO => exact (kr_ HO605.out))
 (case aS => exact (sz_ HB))
 (case aL => have := LMc2.out; omega)
 intro v607 w8 ho hb hg hat
 rw [← Ny606.out] at ho
 replace BK601 := kg_ BK601 HO605 hg
 replace BK602 := kg_ BK602 HO605 hg
 replace HB := Aside0.mk hb
 have HO608 := Aside0.mk ho
 clear HO605
 clear ho hb hg hat
 obtain ⟨Ao9, co9, eo9⟩ := Kd.R_slice HO608.out
 (first | subst eo9 | (injection eo9 with f1_ f2_ f3_; have f4_ := f1_.symm; have f5_ := f3_.symm; clear f1_ f2_ f3_; subst f4_; subst f5_))
 refine hK.out _ _ ⟨bc0_ BK601.out, bc1_ BK601.out, bc2_ BK601.out⟩ (fun hHeld => ?_)
 clear hK K
 refine no_ 6 ?_
 refine pt_ 6 9 127 ?_
 refine one_ (i := 7) (N := none) (lz_ 8 255) rfl rfl (one_of HT_.out (by kernel_rfl)) (by decide) (fun K hK => ?_)
 have hs10 := bc0_ BK602.out
 have hfs10 := blk_frozen BK602.out 0
 have hns10_0 := NB601_602.out
 have hms10_0 := NB602_601.out
 have hs11 := bc1_ BK602.out
 have hfs11 := blk_frozen BK602.out 1
 have hns11_0 := NB601_602.out
 have hms11_0 := NB602_601.out
 have hs12 := bc2_ BK602.out
 have hfs12 := blk_frozen BK602.out 2
 have hns12_0 := NB601_602.out
 have hms12_0 := NB602_601.out
 refine skip_ (w1 := ?_) (by rfl) rfl ?_ ?_
 rotate_left
 ·go_simp
  rfl
 refine hK.out _ _ ⟨((cell_far (p := ⟨gb602, _, none⟩) NB601_602.out _).trans (((cell_far (p := ⟨gb602, _, none⟩) NB601_602.out _).trans (((cell_far (p := ⟨gb602, _, none⟩) NB601_602.out _).trans (hHeld.1)))))), ((cell_far (p := ⟨gb602, _, none⟩) NB601_602.out _).trans (((cell_far (p := ⟨gb602, _, none⟩) NB601_602.out _).trans (((cell_far (p := ⟨gb602, _, none⟩) NB601_602.out _).trans (hHeld.2.1)))))), ((cell_far (p := ⟨gb602, _, none⟩) NB601_602.out _).trans (((cell_far (p := ⟨gb602, _, none⟩) NB601_602.out _).trans (((cell_far (p := ⟨gb602, _, none⟩) NB601_602.out _).trans (hHeld.2.2))))))⟩ (fun hHeld => ?_)
 clear hK K
 refine done_ (done_of HT_.out (by kernel_rfl)) ?_
 try go_wp2
 refine bodyPost_ret (results_cell_row rfl _ _ gb602 31 #[.slice Ao9 y606.length co9, .int .i64 a0_1, .string a0_2] (0, 0) _ rfl (by exact kq_ BK602) Try.underlying31 rfl (by kernel_rfl)) rfl ?_
 exact ⟨_, e2_, by (with_reducible repeat (first | apply Kd.R_alloc | apply Kd.R_drewN | apply Kd.R_drew)); exact Kd.R_mono (Kd.R_far (p := ⟨gb602, 2, none⟩) (Kd.R_far (p := ⟨gb602, 1, none⟩) (Kd.R_far (p := ⟨gb602, 0, none⟩) (Kd.R_types HO608.out BK602.out (by decide)) (fun _ hk => hk.2) (.slice Ao9 y606.length co9)) (fun _ hk => hk.2) (.int .i64 a0_1)) (fun _ hk => hk.2) (.string a0_2)) (fun _ hk => trivial), bw_ HB⟩
end Go.Proofs.Ytjnnglphdaemaaa.Q
end

section
/- What copies of logs return, the program's and the reference's. -/
namespace Go.Proofs.Ytjnnglphdaemaaa.Q
open Go.RowKit Go.Proofs.Ytjnnglphdaemaaa.B Go.Proofs.YtjnnglphdaemaaaW.PrintWords
theorem impl_copyLog_eq (l : List ByteArray) (n : Int) (s : ByteArray) (hl : l.length < 8796093022208) : impl_copyLog.f l n s = some (l, n, s) := by
 unfold impl_copyLog.f slices_Clone_string_string.f
 rw [if_pos (by omega)]
 rfl
theorem spec_l11Copy_eq (l : List ByteArray) (n : Int) (s : ByteArray) (hl : l.length < 8796093022208) : spec_l11Copy.f l n s = some (l, n, s) := by
 unfold spec_l11Copy.f
 simp only [Option.bind_some, List.length_nil, List.nil_append]
 rw [if_pos (by omega)]
end Go.Proofs.Ytjnnglphdaemaaa.Q
end

section
-- Written by a program of this session (wip/tools/pp.sh) over the print of the kit.
namespace Go.Proofs.Ytjnnglphdaemaaa.Q
open Go.RowKit Go.Proofs.YtjnnglphdaemaaaW.PrintWords Go.Proofs.YtjnnglphdaemaaaW.PrintLast Go.Proofs.YtjnnglphdaemaaaW.PrintMore
attribute [local go_sem] max2_int min2_int max_two min_two max_three min_three max_four min_four   -- for this text's walks alone
set_option linter.unusedVariables false
set_option linter.unusedSimpArgs false
attribute [local go_sem high] eqA28
def spec_Extend.j0 : Nat → List (S28) → List ByteArray → List ByteArray → Bool → Int → ByteArray → List ByteArray → Int → ByteArray → Option (List ByteArray × Int × ByteArray × Int)
 | 0, _, _, _, _, _, _, _, _, _ => none
 | k + 1, x1, x3, x11, x20, x603000, x603001, x610000, x610001, x610002 => if x20 = true then (some (x610000, x610001, x610002, 1)) else ((spec_IsSigned.f k x1 x603000 x603001).bind fun t621 => (if t621 = true then (if (x3.length : Int) = 0 then (some (x610000, x610001, x610002, 3)) else ((spec_HeadOf.f k x11).bind fun bt622 => (if (!(x603000 == bt622.1) || (!(x603001.toList == bt622.2.toList))) = true then (some (x610000, x610001, x610002, 4)) else (some (x11, x603000, x603001, 0))))) else (some (x610000, x610001, x610002, 2))))
def spec_Extend.f (k : Nat) (l0_0 : List ByteArray) (a0_1 : Int) (a0_2 : ByteArray) (l1 : List (S28)) (a2_0 : Int) (a2_1 : ByteArray) (l3 : List ByteArray) : Option (List ByteArray × Int × ByteArray × Int) := (spec_l11Copy.f l0_0 a0_1 a0_2).bind fun bt604 => ((some (([] : List ByteArray) : List ByteArray)).bind fun y610 => (if y610.length + l0_0.length < 8796093022208 then ((some (y610 ++ l0_0 : List ByteArray)).bind fun y613 => (if y613.length + l3.length < 8796093022208 then ((some (y613 ++ l3 : List ByteArray)).bind fun y616 => ((spec_LogOk.f k l0_0 a0_1 a0_2).bind fun t619 => (if t619 = true then ((spec_HeadOk.f a2_0 a2_1).bind fun t620 => (if t620 = true then (spec_Extend.j0 k l1 l3 y616 (a2_0 != (y616.length : Int)) a2_0 a2_1 bt604.1 bt604.2.1 bt604.2.2) else (spec_Extend.j0 k l1 l3 y616 true a2_0 a2_1 bt604.1 bt604.2.1 bt604.2.2))) else (spec_Extend.j0 k l1 l3 y616 true a2_0 a2_1 bt604.1 bt604.2.1 bt604.2.2)))) else (none))) else (none)))
set_option maxHeartbeats 8000000 in
set_option maxRecDepth 100000 in
theorem spec_Extend.calls (k : Nat) (A0_0 : Option Addr) (c0_0 : Nat) (l0_0 : List ByteArray) (a0_1 : Int) (a0_2 : ByteArray) (A1 : Option Addr) (c1 : Nat) (l1 : List (S28)) (a2_0 : Int) (a2_1 : ByteArray) (A3 : Option Addr) (c3 : Nat) (l3 : List ByteArray) (r1 : List ByteArray) (r2 : Int) (r3 : ByteArray) (r4 : Int) (w : World) (hr0_0 : Kd.C Kd.string w A0_0 l0_0.length l0_0) (hc0_0 : l0_0.length ≤ c0_0) (hr1 : Kd.C k28 w A1 l1.length l1) (hc1 : l1.length ≤ c1) (hr3 : Kd.C Kd.string w A3 l3.length l3) (hc3 : l3.length ≤ c3) (h : spec_Extend.f k l0_0 a0_1 a0_2 l1 a2_0 a2_1 l3 = some (r1, r2, r3, r4)) :
  Calls Try.prog 21 #[.agg #[.slice A0_0 l0_0.length c0_0, .int .i64 a0_1, .string a0_2], .slice A1 l1.length c1, .agg #[.int .i64 a2_0, .string a2_1], .slice A3 l3.length c3] w fun e w' => ∃ v0_ : Value, e = .returned (.tuple #[.agg #[v0_, .int .i64 r2, .string r3], .int .i64 r4]) ∧ Kd.R Kd.string 9 w' w.heap.size (fun _ => True) v0_ r1 ∧ Below w.heap.size w w' := by
 have hu31 := Try.underlying31
 have hu28 := Try.underlying28
 have HR0_0 := Aside0.mk hr0_0
 have HC0_0 := Aside0.mk hc0_0
 clear hr0_0 hc0_0
 have HR1 := Aside0.mk hr1
 have HC1 := Aside0.mk hc1
 clear hr1 hc1
 have HR3 := Aside0.mk hr3
 have HC3 := Aside0.mk hc3
 clear hr3 hc3
 have HB := Aside0.mk (Below.refl w.heap.size w)
 have H : ((spec_l11Copy.f l0_0 a0_1 a0_2).bind fun bt604 => ((some (([] : List ByteArray) : List ByteArray)).bind fun y610 => (if y610.length + l0_0.length < 8796093022208 then ((some (y610 ++ l0_0 : List ByteArray)).bind fun y613 => (if y613.length + l3.length < 8796093022208 then ((some (y613 ++ l3 : List ByteArray)).bind fun y616 => ((spec_LogOk.f k l0_0 a0_1 a0_2).bind fun t619 => (if t619 = true then ((spec_HeadOk.f a2_0 a2_1).bind fun t620 => (if t620 = true then (spec_Extend.j0 k l1 l3 y616 (a2_0 != (y616.length : Int)) a2_0 a2_1 bt604.1 bt604.2.1 bt604.2.2) else (spec_Extend.j0 k l1 l3 y616 true a2_0 a2_1 bt604.1 bt604.2.1 bt604.2.2))) else (spec_Extend.j0 k l1 l3 y616 true a2_0 a2_1 bt604.1 bt604.2.1 bt604.2.2)))) else (none))) else (none)))) = some (r1, r2, r3, r4) := h
 clear h
 replace H := bi_ H; obtain ⟨⟨t604, t607, t608⟩, A5, H⟩ := H
 dsimp only at H
 obtain ⟨y610, Ny610, H⟩ := sb_ (([] : List ByteArray)) H
 replace H := ip_ H; obtain ⟨c6, H⟩ := H
 have LMc6 := Aside0.mk c6
 clear c6
 obtain ⟨y613, Ny613, H⟩ := sb_ (y610 ++ l0_0) H
 replace H := ip_ H; obtain ⟨c7, H⟩ := H
 have LMc7 := Aside0.mk c7
 clear c7
 obtain ⟨y616, Ny616, H⟩ := sb_ (y613 ++ l3) H
 have HC8 := Aside0.mk H
 clear H
 go_enter Try.func21, Try.ntmps21
 go_upto_region 3 with (first | ((with_reducible refine gd_ 4 ?_); (try (refine gate_guard (by rfl) ?_; dsimp only)); refine bx_ 4 31 #[.slice A0_0 l0_0.length c0_0, .int .i64 a0_1, .string a0_2] ?_; intro gb601 hg w9 hbox hb; have BK601 := Aside0.mk hbox; have GW601 := gg_ hg HB; have GE601 := GW601; replace HB := ss_ HB hb; clear hb hbox hg) | ((with_reducible refine gd_ 6 ?_); (try (refine gate_guard (by rfl) ?_; dsimp only)); refine bx_ 6 28 #[.int .i64 a2_0, .string a2_1] ?_; intro gb602 hg w10 hbox hb; have BK602 := Aside0.mk hbox; have GW602 := gg_ hg HB; have GE602 := GW602; replace HB := ss_ HB hb; have NB601_602 := nla_ hg BK601; have NB602_601 := nga_ hg BK601; replace BK601 := kl_ BK601 hb; clear hb hbox hg) | ((with_reducible refine gd_ 8 ?_); (try (refine gate_guard (by rfl) ?_; dsimp only)); refine bx_ 8 31 #[.slice none 0 0, .int .i64 0, .string (⟨#[]⟩ : ByteArray)] ?_; intro gb603 hg w11 hbox hb; have BK603 := Aside0.mk hbox; have GW603 := gg_ hg HB; have GE603 := GW603; replace HB := ss_ HB hb; have NB601_603 := nla_ hg BK601; have NB603_601 := nga_ hg BK601; replace BK601 := kl_ BK601 hb; have NB602_603 := nla_ hg BK602; have NB603_602 := nga_ hg BK602; replace BK602 := kl_ BK602 hb; clear hb hbox hg; have hnb12 := NB601_602.out; have hnc12 := NB602_601.out; have hnb13 := NB601_603.out; have hnc13 := NB603_601.out; have hz14 := cz3_ BK601) | ((with_reducible refine gq_ 76 13 ?_); refine gc_ 13 Try.func76 (spec_l11Copy.calls _ _ l0_0 a0_1 a0_2 t604 t607 t608 _ (cb_ HR0_0 HB) HC0_0.out A5.out) ?_; rintro e w15 ⟨v605, rfl, ho0, hb⟩; refine ⟨_, rfl, ?_⟩; have HO606 := Aside0.mk (Kd.R_lower ho0 (sz_ HB)); replace BK601 := kl_ BK601 hb; replace BK602 := kl_ BK602 hb; replace BK603 := kl_ BK603 hb; replace HB := ss_ HB hb; clear hb ho0) | ((with_reducible refine gd_ 10 ?_); (try (refine gate_guard (by rfl) ?_; dsimp only)); refine bx_ 10 31 #[.slice none 0 0, .int .i64 0, .string (⟨#[]⟩ : ByteArray)] ?_; intro gb609 hg w16 hbox hb; replace HO606 := rb_ HO606 hb; have BK609 := Aside0.mk hbox; have GW609 := gg_ hg HB; have GE609 := GW609; replace HB := ss_ HB hb; have NB601_609 := nla_ hg BK601; have NB609_601 := nga_ hg BK601; replace BK601 := kl_ BK601 hb; have NB602_609 := nla_ hg BK602; have NB609_602 := nga_ hg BK602; replace BK602 := kl_ BK602 hb; have NB603_609 := Aside0.mk ((by rw [hg]; exact Nat.ne_of_lt (blk_lt (kb_ BK603.out)) : gb603 ≠ gb609)); have NB609_603 := Aside0.mk ((by rw [hg]; exact Nat.ne_of_gt (blk_lt (kb_ BK603.out)) : gb609 ≠ gb603)); replace BK603 := kl_ BK603 hb; clear hb hbox hg; obtain ⟨Ao17, co17, eo17⟩ := Kd.R_slice HO606.out; subst eo17; have hnb18 := NB609_601.out; have hnc18 := NB601_609.out; have hnb19 := NB609_602.out; have hnc19 := NB602_609.out; have hnb20 := NB609_603.out; have hnc20 := NB603_609.out; have hz21 := cz3_ BK609) | ((with_reducible refine gd_ 14 ?_); (try (refine gate_guard (by rfl) ?_; dsimp only)); refine rl_ Kd.string 9 14 ([] : List ByteArray) [] ?_; intro v611 w22 ho23 hb hg_ hnew_; clear hg_ hnew_; (first | rw [← Ny610.out] at ho23 | (simp only [Int.reduceToNat] at ho23; rw [← Ny610.out] at ho23)); have HO612 := Aside0.mk (Kd.R_lower (Kd.R_new' ho23 (lf_ HO606 BK609)) (sz_ HB)); replace HO606 := ref_ HO606 BK609 ho23 hb; replace BK601 := kp_ BK601 hb; replace BK602 := kp_ BK602 hb; replace BK603 := kp_ BK603 hb; replace BK609 := kp_ BK609 hb; replace HB := ss_ HB hb; clear hb ho23; have hz24 := cz3_ BK601) | ((with_reducible refine gate_builtin (b := .append) (xs := #[.tmp 14, .tmp 16]) rfl ?_); (try (refine gate_guard (by rfl) ?_; dsimp only)); at_builtin; refine Kd.R_append_rows Kd.string (w0 := w) w.heap.size rfl (.tmp 14) (.tmp 16) 24 9 (.string ⟨#[]⟩) 16 rfl Try.underlying24 info9 rfl (by decide) (by omega) v611 y610 l0_0 _ _ _ (fun k_ => some k_ ≠ (.slice Ao17 t604.length co17 : Value).ownBlock) (fun _ => False) rfl rfl ?aO ?aR (fun _ _ h => h) (fun _ h => h.elim) ?aF ?aB ?aS ?aL ?_; (case aR => exact cb_ HR0_0 HB); (case aB => exact (bw_ HB)); (case aF => exact (fun k_ hk => Kd.fresh' (lt_ HO606) k_ hk)); (case aO => exact (kr_ (Kd.R_mono HO612.out (fun _ hk => hk.2)))); (case aS => exact (sz_ HB)); (case aL => have := LMc6.out; omega); intro v614 w25 ho hb hg hat; rw [← Ny613.out] at ho; replace BK601 := kg_ BK601 HO612 hg; replace BK602 := kg_ BK602 HO612 hg; replace BK603 := kg_ BK603 HO612 hg; replace HO606 := Aside0.mk (Kd.R_after (ok := (fun _ => True)) (kr_ HO606.out) hg hat); replace BK609 := kg_ BK609 HO612 hg; replace HB := Aside0.mk hb; have HO615 := Aside0.mk ho; clear HO612; clear ho hb hg hat) | ((with_reducible refine gate_builtin (b := .append) (xs := #[.tmp 17, .tmp 18]) rfl ?_); (try (refine gate_guard (by rfl) ?_; dsimp only)); at_builtin; refine Kd.R_append_rows Kd.string (w0 := w) w.heap.size rfl (.tmp 17) (.tmp 18) 24 9 (.string ⟨#[]⟩) 16 rfl Try.underlying24 info9 rfl (by decide) (by omega) v614 y613 l3 _ _ _ (fun k_ => some k_ ≠ (.slice Ao17 t604.length co17 : Value).ownBlock) (fun _ => False) rfl rfl ?aO ?aR (fun _ _ h => h) (fun _ h => h.elim) ?aF ?aB ?aS ?aL ?_; (case aR => exact cb_ HR3 HB); (case aB => exact (bw_ HB)); (case aF => exact (fun k_ hk => Kd.fresh' (lt_ HO606) k_ hk)); (case aO => exact (kr_ HO615.out)); (case aS => exact (sz_ HB)); (case aL => have := LMc7.out; omega); intro v617 w26 ho hb hg hat; rw [← Ny616.out] at ho; replace BK601 := kg_ BK601 HO615 hg; replace BK602 := kg_ BK602 HO615 hg; replace BK603 := kg_ BK603 HO615 hg; replace HO606 := Aside0.mk (Kd.R_after (ok := (fun _ => True)) (kr_ HO606.out) hg hat); replace BK609 := kg_ BK609 HO615 hg; replace HB := Aside0.mk hb; have HO618 := Aside0.mk ho; clear HO615; clear ho hb hg hat))
 (try simp only [Act.put, List.setIfInBounds_toArray, List.set_cons_zero, List.set_cons_succ])
 go_cut [20] (fun v20 wc => ∃ (kq : Nat) (x20_7 : Bool), v20 = .bool x20_7 ∧ Aside0 (spec_Extend.j0 kq l1 l3 y616 x20_7 a2_0 a2_1 t604 t607 t608 = some (r1, r2, r3, r4)) ∧ Aside0 (kq ≤ k) ∧ Aside0 (Kd.R Kd.string 9 wc w.heap.size (fun k_ => some k_ ≠ ((.slice Ao17 t604.length co17) : Value).ownBlock) v617 y616) ∧ Aside0 (Kd.R Kd.string 9 wc w.heap.size (fun k_ => some k_ ≠ (v617 : Value).ownBlock) (.slice Ao17 t604.length co17) t604) ∧ Aside0 (wc.heap[gb601]? = some (.cells #[(.slice A0_0 l0_0.length c0_0), .int .i64 a0_1, .string a0_2] 31 (0, 0))) ∧ Aside0 (wc.heap[gb602]? = some (.cells #[.int .i64 a2_0, .string a2_1] 28 (0, 0))) ∧ Aside0 (wc.heap[gb603]? = some (.cells #[(.slice none 0 0), .int .i64 0, .string (⟨#[]⟩ : ByteArray)] 31 (0, 0))) ∧ Aside0 (wc.heap[gb609]? = some (.cells #[(.slice Ao17 t604.length co17), .int .i64 t607, .string t608] 31 (0, 0))) ∧ Aside0 (Below w.heap.size w wc))
 case first =>
  have H := HC8.out
  clear HC8
  replace H := bi_ H; obtain ⟨t619, A27, H⟩ := H
  replace H := itb_ H; obtain ⟨rfl, H⟩ | ⟨rfl, H⟩ := H
  ·replace H := bi_ H; obtain ⟨t620, A29, H⟩ := H
   replace H := itb_ H; obtain ⟨rfl, H⟩ | ⟨rfl, H⟩ := H
   ·have H' := Aside0.mk H
    clear H
    have hnb31 := NB601_602.out
    have hnc31 := NB602_601.out
    have hnb32 := NB601_603.out
    have hnc32 := NB603_601.out
    have hnb33 := NB601_609.out
    have hnc33 := NB609_601.out
    have hz34 := cz3_ BK601
    go_wp2_with (first | ((with_reducible refine gq_ 77 22 ?_); refine gc_ 22 Try.func77 (spec_LogOk.calls k _ _ l0_0 a0_1 a0_2 true _ (cb_ HR0_0 HB) HC0_0.out A27.out) ?_; rintro e w35 ⟨rfl, hb⟩; refine ⟨_, rfl, ?_⟩; replace HO606 := rb_ HO606 hb; replace HO618 := rb_ HO618 hb; replace BK601 := kl_ BK601 hb; replace BK602 := kl_ BK602 hb; replace BK603 := kl_ BK603 hb; replace BK609 := kl_ BK609 hb; replace HB := ss_ HB hb; clear hb; have hnb36 := NB602_603.out; have hnc36 := NB603_602.out; have hnb37 := NB602_609.out; have hnc37 := NB609_602.out; have hz38 := cz2_ BK602) | (go_at_call 78; (with_reducible refine (spec_HeadOk.calls a2_0 a2_1 true _ A29.out).mono ?_); rintro e w39 ⟨rfl, hb⟩; replace HO606 := rb_ HO606 hb; replace HO618 := rb_ HO618 hb; replace BK601 := kl_ BK601 hb; replace BK602 := kl_ BK602 hb; replace BK603 := kl_ BK603 hb; replace BK609 := kl_ BK609 hb; replace HB := ss_ HB hb; clear hb; have hz40 := cz2_ BK602; obtain ⟨Ao41, co41, eo41⟩ := Kd.R_slice HO618.out; subst eo41))
    go_meet
    case rel => exact ⟨_, ((a2_0 != (y616.length : Int))), e1_, H', ⟨le_⟩, ⟨kr_ HO618.out⟩, ⟨by (with_reducible repeat (first | apply Kd.R_alloc | apply Kd.R_drewN | apply Kd.R_drew)); exact Kd.R_mono HO606.out (fun _ hk => hk.2)⟩, ⟨kb_ BK601.out⟩, ⟨kb_ BK602.out⟩, ⟨kb_ BK603.out⟩, ⟨kb_ BK609.out⟩, ⟨bw_ HB⟩⟩
   ·have H' := Aside0.mk H
    clear H
    have hnb42 := NB601_602.out
    have hnc42 := NB602_601.out
    have hnb43 := NB601_603.out
    have hnc43 := NB603_601.out
    have hnb44 := NB601_609.out
    have hnc44 := NB609_601.out
    have hz45 := cz3_ BK601
    go_wp2_with (first | ((with_reducible refine gq_ 77 22 ?_); refine gc_ 22 Try.func77 (spec_LogOk.calls k _ _ l0_0 a0_1 a0_2 true _ (cb_ HR0_0 HB) HC0_0.out A27.out) ?_; rintro e w46 ⟨rfl, hb⟩; refine ⟨_, rfl, ?_⟩; replace HO606 := rb_ HO606 hb; replace HO618 := rb_ HO618 hb; replace BK601 := kl_ BK601 hb; replace BK602 := kl_ BK602 hb; replace BK603 := kl_ BK603 hb; replace BK609 := kl_ BK609 hb; replace HB := ss_ HB hb; clear hb; have hnb47 := NB602_603.out; have hnc47 := NB603_602.out; have hnb48 := NB602_609.out; have hnc48 := NB609_602.out; have hz49 := cz2_ BK602) | (go_at_call 78; (with_reducible refine (spec_HeadOk.calls a2_0 a2_1 false _ A29.out).mono ?_); rintro e w50 ⟨rfl, hb⟩; replace HO606 := rb_ HO606 hb; replace HO618 := rb_ HO618 hb; replace BK601 := kl_ BK601 hb; replace BK602 := kl_ BK602 hb; replace BK603 := kl_ BK603 hb; replace BK609 := kl_ BK609 hb; replace HB := ss_ HB hb; clear hb))
    go_meet
    case rel => exact ⟨_, (true), e1_, H', ⟨le_⟩, ⟨kr_ HO618.out⟩, ⟨by (with_reducible repeat (first | apply Kd.R_alloc | apply Kd.R_drewN | apply Kd.R_drew)); exact Kd.R_mono HO606.out (fun _ hk => hk.2)⟩, ⟨kb_ BK601.out⟩, ⟨kb_ BK602.out⟩, ⟨kb_ BK603.out⟩, ⟨kb_ BK609.out⟩, ⟨bw_ HB⟩⟩
  ·have H' := Aside0.mk H
   clear H
   have hnb51 := NB601_602.out
   have hnc51 := NB602_601.out
   have hnb52 := NB601_603.out
   have hnc52 := NB603_601.out
   have hnb53 := NB601_609.out
   have hnc53 := NB609_601.out
   have hz54 := cz3_ BK601
   go_wp2_with (first | ((with_reducible refine gq_ 77 22 ?_); refine gc_ 22 Try.func77 (spec_LogOk.calls k _ _ l0_0 a0_1 a0_2 false _ (cb_ HR0_0 HB) HC0_0.out A27.out) ?_; rintro e w55 ⟨rfl, hb⟩; refine ⟨_, rfl, ?_⟩; replace HO606 := rb_ HO606 hb; replace HO618 := rb_ HO618 hb; replace BK601 := kl_ BK601 hb; replace BK602 := kl_ BK602 hb; replace BK603 := kl_ BK603 hb; replace BK609 := kl_ BK609 hb; replace HB := ss_ HB hb; clear hb))
   go_meet
   case rel => exact ⟨_, (true), e1_, H', ⟨le_⟩, ⟨kr_ HO618.out⟩, ⟨by (with_reducible repeat (first | apply Kd.R_alloc | apply Kd.R_drewN | apply Kd.R_drew)); exact Kd.R_mono HO606.out (fun _ hk => hk.2)⟩, ⟨kb_ BK601.out⟩, ⟨kb_ BK602.out⟩, ⟨kb_ BK603.out⟩, ⟨kb_ BK609.out⟩, ⟨bw_ HB⟩⟩
 case rest =>
  clear HC8
  try clear c6
  try clear c7
  try clear hz14
  try clear hz21
  try clear hz24
  obtain ⟨kq, x20_7, rfl, HA, HJ7, HO_11, HO_610000, BK601, BK602, BK603, BK609, HB⟩ := hcut
  cases kq with
  | zero => exact absurd HA.out (by simp [spec_Extend.j0])
  | succ kj7 =>
   have H := HA.out
   clear HA
   simp only [spec_Extend.j0] at H
   replace H := itb_ H; obtain ⟨rfl, H⟩ | ⟨rfl, H⟩ := H
   ·replace H := so4_ H; obtain ⟨rfl, rfl, rfl, rfl⟩ := H
    have hnb57 := NB609_601.out
    have hnc57 := NB601_609.out
    have hnb58 := NB609_602.out
    have hnc58 := NB602_609.out
    have hnb59 := NB609_603.out
    have hnc59 := NB603_609.out
    have hz60 := cz3_ BK609
    have hnb61 := NB603_601.out
    have hnc61 := NB601_603.out
    have hnb62 := NB603_602.out
    have hnc62 := NB602_603.out
    have hz63 := cz3_ BK603
    go_wp2
    refine bodyPost_ret (results_ct rfl _ _ gb603 31 #[.slice Ao17 t604.length co17, .int .i64 t607, .string t608] (0, 0) _ rfl (by exact kq_ BK603) Try.underlying31 rfl (by kernel_rfl)) rfl ?_
    exact ⟨_, e2_, by (with_reducible repeat (first | apply Kd.R_alloc | apply Kd.R_drewN | apply Kd.R_drew)); exact Kd.R_mono (Kd.R_far (p := ⟨gb603, 2, none⟩) (Kd.R_far (p := ⟨gb603, 1, none⟩) (Kd.R_far (p := ⟨gb603, 0, none⟩) (Kd.R_types HO_610000.out BK603.out (by decide)) (fun _ hk => hk.2) (.slice Ao17 t604.length co17)) (fun _ hk => hk.2) (.int .i64 t607)) (fun _ hk => hk.2) (.string t608)) (fun _ hk => trivial), bw_ HB⟩
   ·replace H := bi_ H; obtain ⟨t621, A64, H⟩ := H
    replace H := itb_ H; obtain ⟨rfl, H⟩ | ⟨rfl, H⟩ := H
    ·replace H := it_ H; obtain ⟨c66, H⟩ | ⟨c66, H⟩ := H
     ·have c66b0 : ((l3.length : Int) == 0) = true := beq_iff_eq.mpr c66
      have c66b1 : ((l3.length : Int) != 0) = false := bne_eq_false_iff_eq.mpr c66
      clear c66
      replace H := so4_ H; obtain ⟨rfl, rfl, rfl, rfl⟩ := H
      have hnb67 := NB602_601.out
      have hnc67 := NB601_602.out
      have hnb68 := NB602_603.out
      have hnc68 := NB603_602.out
      have hnb69 := NB602_609.out
      have hnc69 := NB609_602.out
      have hz70 := cz2_ BK602
      go_wp2_with (first | ((with_reducible refine gq_ 79 40 ?_); refine gc_ 40 Try.func79 (spec_IsSigned.calls kj7 _ _ l1 a2_0 a2_1 true _ (cb_ HR1 HB) HC1.out A64.out) ?_; rintro e w71 ⟨rfl, hb⟩; refine ⟨_, rfl, ?_⟩; replace HO_11 := rb_ HO_11 hb; replace HO_610000 := rb_ HO_610000 hb; replace BK601 := kl_ BK601 hb; replace BK602 := kl_ BK602 hb; replace BK603 := kl_ BK603 hb; replace BK609 := kl_ BK609 hb; replace HB := ss_ HB hb; clear hb; have hnb72 := NB609_601.out; have hnc72 := NB601_609.out; have hnb73 := NB609_603.out; have hnc73 := NB603_609.out; have hz74 := cz3_ BK609; have hnb75 := NB603_601.out; have hnc75 := NB601_603.out; have hz76 := cz3_ BK603))
      refine bodyPost_ret (results_ct rfl _ _ gb603 31 #[.slice Ao17 t604.length co17, .int .i64 t607, .string t608] (0, 0) _ rfl (by exact kq_ BK603) Try.underlying31 rfl (by kernel_rfl)) rfl ?_
      exact ⟨_, e2_, by (with_reducible repeat (first | apply Kd.R_alloc | apply Kd.R_drewN | apply Kd.R_drew)); exact Kd.R_mono (Kd.R_far (p := ⟨gb603, 2, none⟩) (Kd.R_far (p := ⟨gb603, 1, none⟩) (Kd.R_far (p := ⟨gb603, 0, none⟩) (Kd.R_types HO_610000.out BK603.out (by decide)) (fun _ hk => hk.2) (.slice Ao17 t604.length co17)) (fun _ hk => hk.2) (.int .i64 t607)) (fun _ hk => hk.2) (.string t608)) (fun _ hk => trivial), bw_ HB⟩
     ·have c66b0 : ((l3.length : Int) == 0) = false := beq_eq_false_iff_ne.mpr c66
      have c66b1 : ((l3.length : Int) != 0) = true := bne_iff_ne.mpr c66
      have c66b2 : ¬ (l3 = []) := fun h_ => c66 (by rw [h_]; rfl)
      replace H := bi_ H; obtain ⟨⟨t622, t623⟩, A77, H⟩ := H
      dsimp only at H
      replace H := it_ H; obtain ⟨c78, H⟩ | ⟨c78, H⟩ := H
      ·have c78b0 : (!(a2_0 == t622) || (!(a2_1.toList == t623.toList))) = true := c78
       clear c78
       replace H := so4_ H; obtain ⟨rfl, rfl, rfl, rfl⟩ := H
       have hnb79 := NB602_601.out
       have hnc79 := NB601_602.out
       have hnb80 := NB602_603.out
       have hnc80 := NB603_602.out
       have hnb81 := NB602_609.out
       have hnc81 := NB609_602.out
       have hz82 := cz2_ BK602
       try go_wp2_with (first | ((with_reducible refine gq_ 79 40 ?_); refine gc_ 40 Try.func79 (spec_IsSigned.calls kj7 _ _ l1 a2_0 a2_1 true _ (cb_ HR1 HB) HC1.out A64.out) ?_; rintro e w83 ⟨rfl, hb⟩; refine ⟨_, rfl, ?_⟩; replace HO_11 := rb_ HO_11 hb; replace HO_610000 := rb_ HO_610000 hb; replace BK601 := kl_ BK601 hb; replace BK602 := kl_ BK602 hb; replace BK603 := kl_ BK603 hb; replace BK609 := kl_ BK609 hb; replace HB := ss_ HB hb; clear hb))
       replace HO_11 := Aside0.mk (Kd.R_drew HO_11.out)
       replace HO_610000 := Aside0.mk (Kd.R_drew HO_610000.out)
       replace BK601 := Aside0.mk (blk_drew BK601.out)
       replace BK602 := Aside0.mk (blk_drew BK602.out)
       replace BK603 := Aside0.mk (blk_drew BK603.out)
       replace BK609 := Aside0.mk (blk_drew BK609.out)
       replace HB := Aside0.mk (below_drew1 HB.out)
       obtain ⟨Ao85, co85, eo85⟩ := Kd.R_slice HO_11.out
       (first | subst eo85 | (injection eo85 with f1_ f2_ f3_; have f4_ := f1_.symm; have f5_ := f3_.symm; clear f1_ f2_ f3_; subst f4_; subst f5_))
       refine start_ (n := 5) (S := fun w' => w'.cell? ⟨gb602, 0, none⟩ = some (.int .i64 a2_0) ∧ w'.cell? ⟨gb602, 1, none⟩ = some (.string a2_1)) (ds := []) (lz_ 5 0) (by kernel_rfl) rfl rfl ⟨bc0_ BK602.out, bc1_ BK602.out⟩ (fun hHeld => ?_)
       generalize w83.drew = w84 at HO_11 HO_610000 BK601 BK602 BK603 BK609 HB hHeld ⊢
       refine pk_ 1 50 2 ?_
       refine tk_ 0 49 3 ?_
       refine one_ (i := 2) (N := some 51) (lz_ 5 7) rfl rfl (by kernel_rfl) (by decide) (fun K hK => ?_)
       refine gf_ Try.func72 (spec_HeadOf.calls kj7 _ _ y616 t622 t623 _ (ch_ HO_11) (cl_ HO_11) A77.out) ?_
       rintro e w86 ⟨rfl, hb⟩
       refine ⟨_, rfl, ?_⟩
       replace HO_11 := rb_ HO_11 hb
       replace HO_610000 := rb_ HO_610000 hb
       replace BK601 := kl_ BK601 hb
       replace BK602 := kl_ BK602 hb
       replace BK603 := kl_ BK603 hb
       replace BK609 := kl_ BK609 hb
       replace HB := ss_ HB hb
       clear hb
       refine hK.out _ _ ⟨bc0_ BK602.out, bc1_ BK602.out⟩ (fun hHeld => ?_)
       clear hK K
       refine no_ 51 ?_
       refine pk_ 3 52 15 ?_
       refine pk_ 4 48 31 ?_
       refine done_ (by kernel_rfl) ?_
       have hnb87 := NB609_601.out
       have hnc87 := NB601_609.out
       have hnb88 := NB609_603.out
       have hnc88 := NB603_609.out
       have hz89 := cz3_ BK609
       have hnb90 := NB603_601.out
       have hnc90 := NB601_603.out
       have hz91 := cz3_ BK603
       try go_wp2
       refine bodyPost_ret (results_ct rfl _ _ gb603 31 #[.slice Ao17 t604.length co17, .int .i64 t607, .string t608] (0, 0) _ rfl (by exact kq_ BK603) Try.underlying31 rfl (by kernel_rfl)) rfl ?_
       exact ⟨_, e2_, by (with_reducible repeat (first | apply Kd.R_alloc | apply Kd.R_drewN | apply Kd.R_drew)); exact Kd.R_mono (Kd.R_far (p := ⟨gb603, 2, none⟩) (Kd.R_far (p := ⟨gb603, 1, none⟩) (Kd.R_far (p := ⟨gb603, 0, none⟩) (Kd.R_types HO_610000.out BK603.out (by decide)) (fun _ hk => hk.2) (.slice Ao17 t604.length co17)) (fun _ hk => hk.2) (.int .i64 t607)) (fun _ hk => hk.2) (.string t608)) (fun _ hk => trivial), bw_ HB⟩
      ·have c78b0 : (!(a2_0 == t622) || (!(a2_1.toList == t623.toList))) = false := by simpa using c78
       clear c78
       replace H := so4_ H; obtain ⟨rfl, rfl, rfl, rfl⟩ := H
       have hnb92 := NB602_601.out
       have hnc92 := NB601_602.out
       have hnb93 := NB602_603.out
       have hnc93 := NB603_602.out
       have hnb94 := NB602_609.out
       have hnc94 := NB609_602.out
       have hz95 := cz2_ BK602
       try go_wp2_with (first | ((with_reducible refine gq_ 79 40 ?_); refine gc_ 40 Try.func79 (spec_IsSigned.calls kj7 _ _ l1 a2_0 a2_1 true _ (cb_ HR1 HB) HC1.out A64.out) ?_; rintro e w96 ⟨rfl, hb⟩; refine ⟨_, rfl, ?_⟩; replace HO_11 := rb_ HO_11 hb; replace HO_610000 := rb_ HO_610000 hb; replace BK601 := kl_ BK601 hb; replace BK602 := kl_ BK602 hb; replace BK603 := kl_ BK603 hb; replace BK609 := kl_ BK609 hb; replace HB := ss_ HB hb; clear hb))
       replace HO_11 := Aside0.mk (Kd.R_drew HO_11.out)
       replace HO_610000 := Aside0.mk (Kd.R_drew HO_610000.out)
       replace BK601 := Aside0.mk (blk_drew BK601.out)
       replace BK602 := Aside0.mk (blk_drew BK602.out)
       replace BK603 := Aside0.mk (blk_drew BK603.out)
       replace BK609 := Aside0.mk (blk_drew BK609.out)
       replace HB := Aside0.mk (below_drew1 HB.out)
       obtain ⟨Ao98, co98, eo98⟩ := Kd.R_slice HO_11.out
       (first | subst eo98 | (injection eo98 with f1_ f2_ f3_; have f4_ := f1_.symm; have f5_ := f3_.symm; clear f1_ f2_ f3_; subst f4_; subst f5_))
       refine start_ (n := 5) (S := fun w' => w'.cell? ⟨gb602, 0, none⟩ = some (.int .i64 a2_0) ∧ w'.cell? ⟨gb602, 1, none⟩ = some (.string a2_1)) (ds := []) (lz_ 5 0) (by kernel_rfl) rfl rfl ⟨bc0_ BK602.out, bc1_ BK602.out⟩ (fun hHeld => ?_)
       generalize w96.drew = w97 at HO_11 HO_610000 BK601 BK602 BK603 BK609 HB hHeld ⊢
       refine pk_ 1 50 2 ?_
       refine tk_ 0 49 3 ?_
       refine one_ (i := 2) (N := some 51) (lz_ 5 7) rfl rfl (by kernel_rfl) (by decide) (fun K hK => ?_)
       refine gf_ Try.func72 (spec_HeadOf.calls kj7 _ _ y616 t622 t623 _ (ch_ HO_11) (cl_ HO_11) A77.out) ?_
       rintro e w99 ⟨rfl, hb⟩
       refine ⟨_, rfl, ?_⟩
       replace HO_11 := rb_ HO_11 hb
       replace HO_610000 := rb_ HO_610000 hb
       replace BK601 := kl_ BK601 hb
       replace BK602 := kl_ BK602 hb
       replace BK603 := kl_ BK603 hb
       replace BK609 := kl_ BK609 hb
       replace HB := ss_ HB hb
       clear hb
       refine hK.out _ _ ⟨bc0_ BK602.out, bc1_ BK602.out⟩ (fun hHeld => ?_)
       clear hK K
       refine no_ 51 ?_
       refine pk_ 3 52 15 ?_
       refine pk_ 4 48 31 ?_
       refine done_ (by kernel_rfl) ?_
       have hz100 := cz2_ BK602
       have hnb101 := NB603_601.out
       have hnc101 := NB601_603.out
       have hnb102 := NB603_609.out
       have hnc102 := NB609_603.out
       have hz103 := cz3_ BK603
       try go_wp2
       refine bodyPost_ret (results_ct rfl _ _ gb603 31 #[.slice Ao98 y616.length co98, .int .i64 a2_0, .string a2_1] (0, 0) _ rfl (by exact kq_ BK603) Try.underlying31 rfl (by kernel_rfl)) rfl ?_
       exact ⟨_, e2_, by (with_reducible repeat (first | apply Kd.R_alloc | apply Kd.R_drewN | apply Kd.R_drew)); exact Kd.R_mono (Kd.R_far (p := ⟨gb603, 2, none⟩) (Kd.R_far (p := ⟨gb603, 1, none⟩) (Kd.R_far (p := ⟨gb603, 0, none⟩) (Kd.R_types HO_11.out BK603.out (by decide)) (fun _ hk => hk.2) (.slice Ao98 y616.length co98)) (fun _ hk => hk.2) (.int .i64 a2_0)) (fun _ hk => hk.2) (.string a2_1)) (fun _ hk => trivial), bw_ HB⟩
    ·replace H := so4_ H; obtain ⟨rfl, rfl, rfl, rfl⟩ := H
     have hnb104 := NB602_601.out
     have hnc104 := NB601_602.out
     have hnb105 := NB602_603.out
     have hnc105 := NB603_602.out
     have hnb106 := NB602_609.out
     have hnc106 := NB609_602.out
     have hz107 := cz2_ BK602
     go_wp2_with (first | ((with_reducible refine gq_ 79 40 ?_); refine gc_ 40 Try.func79 (spec_IsSigned.calls kj7 _ _ l1 a2_0 a2_1 false _ (cb_ HR1 HB) HC1.out A64.out) ?_; rintro e w108 ⟨rfl, hb⟩; refine ⟨_, rfl, ?_⟩; replace HO_11 := rb_ HO_11 hb; replace HO_610000 := rb_ HO_610000 hb; replace BK601 := kl_ BK601 hb; replace BK602 := kl_ BK602 hb; replace BK603 := kl_ BK603 hb; replace BK609 := kl_ BK609 hb; replace HB := ss_ HB hb; clear hb; have hnb109 := NB609_601.out; have hnc109 := NB601_609.out; have hnb110 := NB609_603.out; have hnc110 := NB603_609.out; have hz111 := cz3_ BK609; have hnb112 := NB603_601.out; have hnc112 := NB601_603.out; have hz113 := cz3_ BK603))
     refine bodyPost_ret (results_ct rfl _ _ gb603 31 #[.slice Ao17 t604.length co17, .int .i64 t607, .string t608] (0, 0) _ rfl (by exact kq_ BK603) Try.underlying31 rfl (by kernel_rfl)) rfl ?_
     exact ⟨_, e2_, by (with_reducible repeat (first | apply Kd.R_alloc | apply Kd.R_drewN | apply Kd.R_drew)); exact Kd.R_mono (Kd.R_far (p := ⟨gb603, 2, none⟩) (Kd.R_far (p := ⟨gb603, 1, none⟩) (Kd.R_far (p := ⟨gb603, 0, none⟩) (Kd.R_types HO_610000.out BK603.out (by decide)) (fun _ hk => hk.2) (.slice Ao17 t604.length co17)) (fun _ hk => hk.2) (.int .i64 t607)) (fun _ hk => hk.2) (.string t608)) (fun _ hk => trivial), bw_ HB⟩
end Go.Proofs.Ytjnnglphdaemaaa.Q
end

section
-- Written by a program of this session (wip/tools/pp.sh) over the print of the kit.
namespace Go.Proofs.Ytjnnglphdaemaaa.Q
open Go.RowKit Go.Proofs.YtjnnglphdaemaaaW.PrintWords Go.Proofs.YtjnnglphdaemaaaW.PrintLast Go.Proofs.YtjnnglphdaemaaaW.PrintMore
attribute [local go_sem] max2_int min2_int max_two min_two max_three min_three max_four min_four   -- for this text's walks alone
set_option linter.unusedVariables false
set_option linter.unusedSimpArgs false
attribute [local go_sem high] eqA28
def impl_extend.j0 : Nat → List (S28) → List ByteArray → Bool → List ByteArray → Int → ByteArray → Int → ByteArray → Option (List ByteArray × Int × ByteArray × Int)
 | 0, _, _, _, _, _, _, _, _ => none
 | k + 1, x1, x3, x11, x602000, x602001, x602002, x603000, x603001 => if x11 = true then ((impl_copyLog.f x602000 x602001 x602002).bind fun bt605 => (some (bt605.1, bt605.2.1, bt605.2.2, 1))) else ((impl_IsSigned.f k x1 x603000 x603001).bind fun t610 => (if t610 = true then (if (x3.length : Int) = 0 then ((impl_copyLog.f x602000 x602001 x602002).bind fun bt611 => (some (bt611.1, bt611.2.1, bt611.2.2, 3))) else ((slices_Concat_string_string.f k (([x602000, x3] : List (List ByteArray)))).bind fun t624 => ((impl_HeadOf.f k t624).bind fun bt627 => (if (!(bt627.1 == x603000) || (!(bt627.2.toList == x603001.toList))) = true then ((impl_copyLog.f x602000 x602001 x602002).bind fun bt629 => (some (bt629.1, bt629.2.1, bt629.2.2, 4))) else (some (t624, x603000, x603001, 0)))))) else ((impl_copyLog.f x602000 x602001 x602002).bind fun bt616 => (some (bt616.1, bt616.2.1, bt616.2.2, 2)))))
def impl_extend.f (k : Nat) (l0_0 : List ByteArray) (a0_1 : Int) (a0_2 : ByteArray) (l1 : List (S28)) (a2_0 : Int) (a2_1 : ByteArray) (l3 : List ByteArray) : Option (List ByteArray × Int × ByteArray × Int) := (impl_HeadOk.f a2_0 a2_1).bind fun t604 => (if t604 = true then (impl_extend.j0 k l1 l3 (a2_0 != (wrap64 ((l0_0.length : Int) + (l3.length : Int)))) l0_0 a0_1 a0_2 a2_0 a2_1) else (impl_extend.j0 k l1 l3 true l0_0 a0_1 a0_2 a2_0 a2_1))
set_option maxHeartbeats 8000000 in
set_option maxRecDepth 100000 in
theorem impl_extend.calls (k : Nat) (P0_0_ : Nat → Prop) (A0_0 : Option Addr) (c0_0 : Nat) (l0_0 : List ByteArray) (a0_1 : Int) (a0_2 : ByteArray) (A1 : Option Addr) (c1 : Nat) (l1 : List (S28)) (a2_0 : Int) (a2_1 : ByteArray) (P3_ : Nat → Prop) (A3 : Option Addr) (c3 : Nat) (l3 : List ByteArray) (r1 : List ByteArray) (r2 : Int) (r3 : ByteArray) (r4 : Int) (w : World) (hs0_0 : Kd.V Kd.string 9 w w.heap.size (fun k_ => P0_0_ k_) (.slice A0_0 l0_0.length c0_0) l0_0) (hr1 : Kd.C k28 w A1 l1.length l1) (hc1 : l1.length ≤ c1) (hs3 : Kd.V Kd.string 9 w w.heap.size (fun k_ => P3_ k_) (.slice A3 l3.length c3) l3) (h : impl_extend.f k l0_0 a0_1 a0_2 l1 a2_0 a2_1 l3 = some (r1, r2, r3, r4)) :
  Calls Try.prog 64 #[.agg #[.slice A0_0 l0_0.length c0_0, .int .i64 a0_1, .string a0_2], .slice A1 l1.length c1, .agg #[.int .i64 a2_0, .string a2_1], .slice A3 l3.length c3] w fun e w' => ∃ v0_ : Value, e = .returned (.tuple #[.agg #[v0_, .int .i64 r2, .string r3], .int .i64 r4]) ∧ Kd.R Kd.string 9 w' w.heap.size (fun k_ => (w.heap.size ≤ k_)) v0_ r1 ∧ Below w.heap.size w w' := by
 have hu31 := Try.underlying31
 have hu28 := Try.underlying28
 have HO0_0 := Aside0.mk (show Kd.V Kd.string 9 w w.heap.size (fun k_ => ((P0_0_ k_ ∨ P3_ k_) ∨ w.heap.size ≤ k_)) (.slice A0_0 l0_0.length c0_0) l0_0 from Kd.V_mono hs0_0 (fun k_ hk => .inl (.inl hk)))
 have HR1 := Aside0.mk hr1
 have HC1 := Aside0.mk hc1
 clear hr1 hc1
 have HO3 := Aside0.mk (show Kd.V Kd.string 9 w w.heap.size (fun k_ => ((P0_0_ k_ ∨ P3_ k_) ∨ w.heap.size ≤ k_)) (.slice A3 l3.length c3) l3 from Kd.V_mono hs3 (fun k_ hk => .inl (.inr hk)))
 have HB := Aside0.mk (Below.refl w.heap.size w)
 have H : ((impl_HeadOk.f a2_0 a2_1).bind fun t604 => (if t604 = true then (impl_extend.j0 k l1 l3 (a2_0 != (wrap64 ((l0_0.length : Int) + (l3.length : Int)))) l0_0 a0_1 a0_2 a2_0 a2_1) else (impl_extend.j0 k l1 l3 true l0_0 a0_1 a0_2 a2_0 a2_1))) = some (r1, r2, r3, r4) := h
 clear h
 have HC5 := Aside0.mk H
 clear H
 go_enter Try.func64, Try.ntmps64
 go_upto_region 1 with (first | ((with_reducible refine gd_ 4 ?_); (try (refine gate_guard (by rfl) ?_; dsimp only)); refine bx_ 4 31 #[.slice A0_0 l0_0.length c0_0, .int .i64 a0_1, .string a0_2] ?_; intro gb601 hg w6 hbox hb; replace HO0_0 := Aside0.mk (Kd.V_below (Kd.V_elderB (by (with_reducible repeat (first | apply Kd.V_alloc | apply Kd.V_drewN | apply Kd.V_drew)); exact HO0_0.out) gb601 (Nat.le_of_eq hg.symm)) hb); replace HO3 := Aside0.mk (Kd.V_below (Kd.V_elderB (by (with_reducible repeat (first | apply Kd.V_alloc | apply Kd.V_drewN | apply Kd.V_drew)); exact HO3.out) gb601 (Nat.le_of_eq hg.symm)) hb); have BK601 := Aside0.mk hbox; have GW601 := gg_ hg HB; have GE601 := GW601; replace HB := ss_ HB hb; clear hb hbox hg) | ((with_reducible refine gd_ 6 ?_); (try (refine gate_guard (by rfl) ?_; dsimp only)); refine bx_ 6 28 #[.int .i64 a2_0, .string a2_1] ?_; intro gb602 hg w7 hbox hb; replace HO0_0 := Aside0.mk (Kd.V_below (Kd.V_elderB (by (with_reducible repeat (first | apply Kd.V_alloc | apply Kd.V_drewN | apply Kd.V_drew)); exact HO0_0.out) gb602 (Nat.le_of_eq hg.symm)) hb); replace HO3 := Aside0.mk (Kd.V_below (Kd.V_elderB (by (with_reducible repeat (first | apply Kd.V_alloc | apply Kd.V_drewN | apply Kd.V_drew)); exact HO3.out) gb602 (Nat.le_of_eq hg.symm)) hb); have BK602 := Aside0.mk hbox; have GW602 := gg_ hg HB; have GE602 := GW602; replace HB := ss_ HB hb; have NB601_602 := nla_ hg BK601; have NB602_601 := nga_ hg BK601; replace BK601 := kl_ BK601 hb; clear hb hbox hg) | ((with_reducible refine gd_ 8 ?_); (try (refine gate_guard (by rfl) ?_; dsimp only)); refine bx_ 8 31 #[.slice none 0 0, .int .i64 0, .string (⟨#[]⟩ : ByteArray)] ?_; intro gb603 hg w8 hbox hb; replace HO0_0 := Aside0.mk (Kd.V_below (Kd.V_elderB (by (with_reducible repeat (first | apply Kd.V_alloc | apply Kd.V_drewN | apply Kd.V_drew)); exact HO0_0.out) gb603 (Nat.le_of_eq hg.symm)) hb); replace HO3 := Aside0.mk (Kd.V_below (Kd.V_elderB (by (with_reducible repeat (first | apply Kd.V_alloc | apply Kd.V_drewN | apply Kd.V_drew)); exact HO3.out) gb603 (Nat.le_of_eq hg.symm)) hb); have BK603 := Aside0.mk hbox; have GW603 := gg_ hg HB; have GE603 := GW603; replace HB := ss_ HB hb; have NB601_603 := nla_ hg BK601; have NB603_601 := nga_ hg BK601; replace BK601 := kl_ BK601 hb; have NB602_603 := nla_ hg BK602; have NB603_602 := nga_ hg BK602; replace BK602 := kl_ BK602 hb; clear hb hbox hg))
 (try simp only [Act.put, List.setIfInBounds_toArray, List.set_cons_zero, List.set_cons_succ])
 go_cut [11] (fun v11 wc => ∃ (kq : Nat) (x11_4 : Bool), v11 = .bool x11_4 ∧ Aside0 (impl_extend.j0 kq l1 l3 x11_4 l0_0 a0_1 a0_2 a2_0 a2_1 = some (r1, r2, r3, r4)) ∧ Aside0 (kq ≤ k) ∧ Aside0 (Kd.V Kd.string 9 wc w.heap.size (fun k_ => ((P0_0_ k_ ∨ P3_ k_) ∨ w.heap.size ≤ k_) ∧ k_ ≠ gb601 ∧ k_ ≠ gb602 ∧ k_ ≠ gb603) (.slice A3 l3.length c3) l3) ∧ Aside0 (Kd.V Kd.string 9 wc w.heap.size (fun k_ => ((P0_0_ k_ ∨ P3_ k_) ∨ w.heap.size ≤ k_) ∧ k_ ≠ gb601 ∧ k_ ≠ gb602 ∧ k_ ≠ gb603) (.slice A0_0 l0_0.length c0_0) l0_0) ∧ Aside0 (wc.heap[gb601]? = some (.cells #[(.slice A0_0 l0_0.length c0_0), .int .i64 a0_1, .string a0_2] 31 (0, 0))) ∧ Aside0 (wc.heap[gb602]? = some (.cells #[.int .i64 a2_0, .string a2_1] 28 (0, 0))) ∧ Aside0 (wc.heap[gb603]? = some (.cells #[(.slice none 0 0), .int .i64 0, .string (⟨#[]⟩ : ByteArray)] 31 (0, 0))) ∧ Aside0 (Below w.heap.size w wc))
 case first =>
  have H := HC5.out
  clear HC5
  replace H := bi_ H; obtain ⟨t604, A9, H⟩ := H
  replace H := itb_ H; obtain ⟨rfl, H⟩ | ⟨rfl, H⟩ := H
  ·have H' := Aside0.mk H
   clear H
   have hnb11 := NB602_601.out
   have hnc11 := NB601_602.out
   have hnb12 := NB602_603.out
   have hnc12 := NB603_602.out
   have hz13 := cz2_ BK602
   go_wp2_with (first | ((with_reducible refine gq_ 93 13 ?_); refine gc_ 13 Try.func93 (impl_HeadOk.calls a2_0 a2_1 true _ A9.out) ?_; rintro e w14 ⟨rfl, hb⟩; refine ⟨_, rfl, ?_⟩; replace HO0_0 := Aside0.mk (Kd.V_below (by (with_reducible repeat (first | apply Kd.V_alloc | apply Kd.V_drewN | apply Kd.V_drew)); exact HO0_0.out) hb); replace HO3 := Aside0.mk (Kd.V_below (by (with_reducible repeat (first | apply Kd.V_alloc | apply Kd.V_drewN | apply Kd.V_drew)); exact HO3.out) hb); replace BK601 := kl_ BK601 hb; replace BK602 := kl_ BK602 hb; replace BK603 := kl_ BK603 hb; replace HB := ss_ HB hb; clear hb; have hz15 := cz2_ BK602; have hnb16 := NB601_603.out; have hnc16 := NB603_601.out; have hz17 := cz3_ BK601))
   go_meet
   case rel => exact ⟨_, ((a2_0 != (wrap64 ((l0_0.length : Int) + (l3.length : Int))))), e1_, H', ⟨le_⟩, ⟨by (with_reducible repeat (first | apply Kd.V_alloc | apply Kd.V_drewN | apply Kd.V_drew)); exact Kd.V_mono HO3.out (fun _ hk => ⟨hk.1.1.1, ⟨hk.1.1.2, ⟨hk.1.2, hk.2⟩⟩⟩)⟩, ⟨by (with_reducible repeat (first | apply Kd.V_alloc | apply Kd.V_drewN | apply Kd.V_drew)); exact Kd.V_mono HO0_0.out (fun _ hk => ⟨hk.1.1.1, ⟨hk.1.1.2, ⟨hk.1.2, hk.2⟩⟩⟩)⟩, ⟨kb_ BK601.out⟩, ⟨kb_ BK602.out⟩, ⟨kb_ BK603.out⟩, ⟨bw_ HB⟩⟩
  ·have H' := Aside0.mk H
   clear H
   have hnb18 := NB602_601.out
   have hnc18 := NB601_602.out
   have hnb19 := NB602_603.out
   have hnc19 := NB603_602.out
   have hz20 := cz2_ BK602
   go_wp2_with (first | ((with_reducible refine gq_ 93 13 ?_); refine gc_ 13 Try.func93 (impl_HeadOk.calls a2_0 a2_1 false _ A9.out) ?_; rintro e w21 ⟨rfl, hb⟩; refine ⟨_, rfl, ?_⟩; replace HO0_0 := Aside0.mk (Kd.V_below (by (with_reducible repeat (first | apply Kd.V_alloc | apply Kd.V_drewN | apply Kd.V_drew)); exact HO0_0.out) hb); replace HO3 := Aside0.mk (Kd.V_below (by (with_reducible repeat (first | apply Kd.V_alloc | apply Kd.V_drewN | apply Kd.V_drew)); exact HO3.out) hb); replace BK601 := kl_ BK601 hb; replace BK602 := kl_ BK602 hb; replace BK603 := kl_ BK603 hb; replace HB := ss_ HB hb; clear hb))
   go_meet
   case rel => exact ⟨_, (true), e1_, H', ⟨le_⟩, ⟨by (with_reducible repeat (first | apply Kd.V_alloc | apply Kd.V_drewN | apply Kd.V_drew)); exact Kd.V_mono HO3.out (fun _ hk => ⟨hk.1.1.1, ⟨hk.1.1.2, ⟨hk.1.2, hk.2⟩⟩⟩)⟩, ⟨by (with_reducible repeat (first | apply Kd.V_alloc | apply Kd.V_drewN | apply Kd.V_drew)); exact Kd.V_mono HO0_0.out (fun _ hk => ⟨hk.1.1.1, ⟨hk.1.1.2, ⟨hk.1.2, hk.2⟩⟩⟩)⟩, ⟨kb_ BK601.out⟩, ⟨kb_ BK602.out⟩, ⟨kb_ BK603.out⟩, ⟨bw_ HB⟩⟩
 case rest =>
  clear HC5
  try clear c3
  obtain ⟨kq, x11_4, rfl, HA, HJ4, HO_3, HO_602000, BK601, BK602, BK603, HB⟩ := hcut
  cases kq with
  | zero => exact absurd HA.out (by simp [impl_extend.j0])
  | succ kj4 =>
   have H := HA.out
   clear HA
   simp only [impl_extend.j0] at H
   replace H := itb_ H; obtain ⟨rfl, H⟩ | ⟨rfl, H⟩ := H
   ·replace H := bi_ H; obtain ⟨⟨t605, t608, t609⟩, A23, H⟩ := H
    dsimp only at H
    replace H := so4_ H; obtain ⟨rfl, rfl, rfl, rfl⟩ := H
    have hnb24 := NB601_602.out
    have hnc24 := NB602_601.out
    have hnb25 := NB601_603.out
    have hnc25 := NB603_601.out
    have hz26 := cz3_ BK601
    go_wp2_with (first | ((with_reducible refine gq_ 63 27 ?_); refine gc_ 27 Try.func63 (impl_copyLog.calls _ _ l0_0 a0_1 a0_2 t605 t608 t609 _ (cr_ (Kd.V_reads' HO_602000.out).2.2) ((Kd.V_reads' HO_602000.out).2.1) A23.out) ?_; rintro e w27 ⟨v606, rfl, ho0, hb⟩; refine ⟨_, rfl, ?_⟩; replace HO_3 := Aside0.mk (Kd.V_elder' (by (with_reducible repeat (first | apply Kd.V_alloc | apply Kd.V_drewN | apply Kd.V_drew)); exact HO_3.out) (Kd.R_base ho0) hb); replace HO_602000 := Aside0.mk (Kd.V_elder' (by (with_reducible repeat (first | apply Kd.V_alloc | apply Kd.V_drewN | apply Kd.V_drew)); exact HO_602000.out) (Kd.R_base ho0) hb); have HO607 := Aside0.mk (Kd.R_lower (Kd.R_newM (M := fun k_ => (w.heap.size ≤ k_)) ho0 (sz_ HB) (fun k_ h_ => h_)) (sz_ HB)); replace BK601 := kl_ BK601 hb; replace BK602 := kl_ BK602 hb; replace BK603 := kl_ BK603 hb; replace HB := ss_ HB hb; clear hb ho0; obtain ⟨Ao28, co28, eo28⟩ := Kd.R_slice HO607.out; subst eo28; have hnb29 := NB603_602.out; have hnc29 := NB602_603.out; have hz30 := cz3_ BK603))
    refine bodyPost_ret (results_ct rfl _ _ gb603 31 #[.slice Ao28 t605.length co28, .int .i64 t608, .string t609] (0, 0) _ rfl (by exact kq_ BK603) Try.underlying31 rfl (by kernel_rfl)) rfl ?_
    exact ⟨_, e2_, by (with_reducible repeat (first | apply Kd.R_alloc | apply Kd.R_drewN | apply Kd.R_drew)); exact Kd.R_mono (Kd.R_far (p := ⟨gb603, 2, none⟩) (Kd.R_far (p := ⟨gb603, 1, none⟩) (Kd.R_far (p := ⟨gb603, 0, none⟩) (Kd.R_types HO607.out BK603.out (by decide)) (fun _ hk => hk.2) (.slice Ao28 t605.length co28)) (fun _ hk => hk.2) (.int .i64 t608)) (fun _ hk => hk.2) (.string t609)) (fun _ hk => hk.1.1), bw_ HB⟩
   ·replace H := bi_ H; obtain ⟨t610, A31, H⟩ := H
    replace H := itb_ H; obtain ⟨rfl, H⟩ | ⟨rfl, H⟩ := H
    ·replace H := it_ H; obtain ⟨c33, H⟩ | ⟨c33, H⟩ := H
     ·have c33b0 : ((l3.length : Int) == 0) = true := beq_iff_eq.mpr c33
      have c33b1 : ((l3.length : Int) != 0) = false := bne_eq_false_iff_eq.mpr c33
      clear c33
      replace H := bi_ H; obtain ⟨⟨t611, t614, t615⟩, A34, H⟩ := H
      dsimp only at H
      replace H := so4_ H; obtain ⟨rfl, rfl, rfl, rfl⟩ := H
      have hnb35 := NB602_601.out
      have hnc35 := NB601_602.out
      have hnb36 := NB602_603.out
      have hnc36 := NB603_602.out
      have hz37 := cz2_ BK602
      go_wp2_with (first | ((with_reducible refine gq_ 22 31 ?_); refine gc_ 31 Try.func22 (impl_IsSigned.calls kj4 _ _ l1 a2_0 a2_1 true _ (cb_ HR1 HB) HC1.out A31.out) ?_; rintro e w38 ⟨rfl, hb⟩; refine ⟨_, rfl, ?_⟩; replace HO_3 := Aside0.mk (Kd.V_below (by (with_reducible repeat (first | apply Kd.V_alloc | apply Kd.V_drewN | apply Kd.V_drew)); exact HO_3.out) hb); replace HO_602000 := Aside0.mk (Kd.V_below (by (with_reducible repeat (first | apply Kd.V_alloc | apply Kd.V_drewN | apply Kd.V_drew)); exact HO_602000.out) hb); replace BK601 := kl_ BK601 hb; replace BK602 := kl_ BK602 hb; replace BK603 := kl_ BK603 hb; replace HB := ss_ HB hb; clear hb; have hnb39 := NB601_603.out; have hnc39 := NB603_601.out; have hz40 := cz3_ BK601) | ((with_reducible refine gq_ 63 40 ?_); refine gc_ 40 Try.func63 (impl_copyLog.calls _ _ l0_0 a0_1 a0_2 t611 t614 t615 _ (cr_ (Kd.V_reads' HO_602000.out).2.2) ((Kd.V_reads' HO_602000.out).2.1) A34.out) ?_; rintro e w41 ⟨v612, rfl, ho0, hb⟩; refine ⟨_, rfl, ?_⟩; replace HO_3 := Aside0.mk (Kd.V_elder' (by (with_reducible repeat (first | apply Kd.V_alloc | apply Kd.V_drewN | apply Kd.V_drew)); exact HO_3.out) (Kd.R_base ho0) hb); replace HO_602000 := Aside0.mk (Kd.V_elder' (by (with_reducible repeat (first | apply Kd.V_alloc | apply Kd.V_drewN | apply Kd.V_drew)); exact HO_602000.out) (Kd.R_base ho0) hb); have HO613 := Aside0.mk (Kd.R_lower (Kd.R_newM (M := fun k_ => (w.heap.size ≤ k_)) ho0 (sz_ HB) (fun k_ h_ => h_)) (sz_ HB)); replace BK601 := kl_ BK601 hb; replace BK602 := kl_ BK602 hb; replace BK603 := kl_ BK603 hb; replace HB := ss_ HB hb; clear hb ho0; obtain ⟨Ao42, co42, eo42⟩ := Kd.R_slice HO613.out; subst eo42; have hz43 := cz3_ BK603))
      refine bodyPost_ret (results_ct rfl _ _ gb603 31 #[.slice Ao42 t611.length co42, .int .i64 t614, .string t615] (0, 0) _ rfl (by exact kq_ BK603) Try.underlying31 rfl (by kernel_rfl)) rfl ?_
      exact ⟨_, e2_, by (with_reducible repeat (first | apply Kd.R_alloc | apply Kd.R_drewN | apply Kd.R_drew)); exact Kd.R_mono (Kd.R_far (p := ⟨gb603, 2, none⟩) (Kd.R_far (p := ⟨gb603, 1, none⟩) (Kd.R_far (p := ⟨gb603, 0, none⟩) (Kd.R_types HO613.out BK603.out (by decide)) (fun _ hk => hk.2) (.slice Ao42 t611.length co42)) (fun _ hk => hk.2) (.int .i64 t614)) (fun _ hk => hk.2) (.string t615)) (fun _ hk => hk.1.1), bw_ HB⟩
     ·have c33b0 : ((l3.length : Int) == 0) = false := beq_eq_false_iff_ne.mpr c33
      have c33b1 : ((l3.length : Int) != 0) = true := bne_iff_ne.mpr c33
      have c33b2 : ¬ (l3 = []) := fun h_ => c33 (by rw [h_]; rfl)
      obtain ⟨y621, hy621⟩ : ∃ y_ : List (List ByteArray), y_ = (([l0_0, l3] : List (List ByteArray))) := ⟨_, rfl⟩
      replace H : ((slices_Concat_string_string.f kj4 y621).bind fun t624 => ((impl_HeadOf.f kj4 t624).bind fun bt627 => (if (!(bt627.1 == a2_0) || (!(bt627.2.toList == a2_1.toList))) = true then ((impl_copyLog.f l0_0 a0_1 a0_2).bind fun bt629 => (some (bt629.1, bt629.2.1, bt629.2.2, 4))) else (some (t624, a2_0, a2_1, 0))))) = some (r1, r2, r3, r4) := yh_ hy621 H
      have Ny621 := Aside0.mk hy621
      clear hy621
      replace H := bi_ H; obtain ⟨t624, A44, H⟩ := H
      replace H := bi_ H; obtain ⟨⟨t627, t628⟩, A45, H⟩ := H
      dsimp only at H
      replace H := it_ H; obtain ⟨c46, H⟩ | ⟨c46, H⟩ := H
      ·have c46b0 : (!(t627 == a2_0) || (!(t628.toList == a2_1.toList))) = true := c46
       clear c46
       replace H := bi_ H; obtain ⟨⟨t629, t632, t633⟩, A47, H⟩ := H
       dsimp only at H
       replace H := so4_ H; obtain ⟨rfl, rfl, rfl, rfl⟩ := H
       have hnb48 := NB602_601.out
       have hnc48 := NB601_602.out
       have hnb49 := NB602_603.out
       have hnc49 := NB603_602.out
       have hz50 := cz2_ BK602
       try go_wp2_with (first | ((with_reducible refine gq_ 22 31 ?_); refine gc_ 31 Try.func22 (impl_IsSigned.calls kj4 _ _ l1 a2_0 a2_1 true _ (cb_ HR1 HB) HC1.out A31.out) ?_; rintro e w51 ⟨rfl, hb⟩; refine ⟨_, rfl, ?_⟩; replace HO_3 := Aside0.mk (Kd.V_below (by (with_reducible repeat (first | apply Kd.V_alloc | apply Kd.V_drewN | apply Kd.V_drew)); exact HO_3.out) hb); replace HO_602000 := Aside0.mk (Kd.V_below (by (with_reducible repeat (first | apply Kd.V_alloc | apply Kd.V_drewN | apply Kd.V_drew)); exact HO_602000.out) hb); replace BK601 := kl_ BK601 hb; replace BK602 := kl_ BK602 hb; replace BK603 := kl_ BK603 hb; replace HB := ss_ HB hb; clear hb; have hnb52 := NB601_603.out; have hnc52 := NB603_601.out; have hz53 := cz3_ BK601) | ((with_reducible refine gd_ 44 ?_); (try (refine gate_guard (by rfl) ?_; dsimp only)); refine Kd.N_lit (Kd.slice 9 Kd.string) _ 24 ?hg (N' := 44) ?hd (xs := ([l0_0, l3] : List (List ByteArray))) (inner := [.slice A0_0 l0_0.length c0_0, .slice A3 l3.length c3]) (ok := (fun k_ => ((P0_0_ k_ ∨ P3_ k_) ∨ w.heap.size ≤ k_) ∧ k_ ≠ gb601 ∧ k_ ≠ gb602 ∧ k_ ≠ gb603)) (okp := (fun k_ => ((P0_0_ k_ ∨ P3_ k_) ∨ w.heap.size ≤ k_) ∧ k_ ≠ gb601 ∧ k_ ≠ gb602 ∧ k_ ≠ gb603)) ?hr ?hp (fun _ hk => hk) ((show ∀ k_, w51.heap.size ≤ k_ → (fun k_ => ((P0_0_ k_ ∨ P3_ k_) ∨ w.heap.size ≤ k_) ∧ k_ ≠ gb601 ∧ k_ ≠ gb602 ∧ k_ ≠ gb603) k_ from fun k_ hk => ⟨(.inr (Nat.le_trans (sz_ HB) hk)), Kd.freshB (kb_ BK601.out) k_ hk, Kd.freshB (kb_ BK602.out) k_ hk, Kd.freshB (kb_ BK603.out) k_ hk⟩) _ (Nat.le_refl _)) (Below.refl _ _) (Nat.le_refl _) (by simp) ?_; (case hd => rfl); (case hg => rfl); (case hr => first | (go_simp; done) | (go_simp; rfl)); (case hp => exact (Reps.one (show Kd.FK (Kd.slice 9 Kd.string) _ _ l0_0 [.slice A0_0 l0_0.length c0_0] from (Kd.FK_slice_mk (Kd.V_reads' (Kd.V_mono (ok' := (fun k_ => ((P0_0_ k_ ∨ P3_ k_) ∨ w.heap.size ≤ k_) ∧ k_ ≠ gb601 ∧ k_ ≠ gb602 ∧ k_ ≠ gb603)) (HO_602000.out) (fun k_ hk => ⟨hk.1, ⟨hk.2.1, ⟨hk.2.2.1, hk.2.2.2⟩⟩⟩))).2.1 (Kd.V_F (Kd.V_mono (ok' := (fun k_ => ((P0_0_ k_ ∨ P3_ k_) ∨ w.heap.size ≤ k_) ∧ k_ ≠ gb601 ∧ k_ ≠ gb602 ∧ k_ ≠ gb603)) (HO_602000.out) (fun k_ hk => ⟨hk.1, ⟨hk.2.1, ⟨hk.2.2.1, hk.2.2.2⟩⟩⟩))))) (Reps.one (show Kd.FK (Kd.slice 9 Kd.string) _ _ l3 [.slice A3 l3.length c3] from (Kd.FK_slice_mk (Kd.V_reads' (Kd.V_mono (ok' := (fun k_ => ((P0_0_ k_ ∨ P3_ k_) ∨ w.heap.size ≤ k_) ∧ k_ ≠ gb601 ∧ k_ ≠ gb602 ∧ k_ ≠ gb603)) (HO_3.out) (fun k_ hk => ⟨hk.1, ⟨hk.2.1, ⟨hk.2.2.1, hk.2.2.2⟩⟩⟩))).2.1 (Kd.V_F (Kd.V_mono (ok' := (fun k_ => ((P0_0_ k_ ∨ P3_ k_) ∨ w.heap.size ≤ k_) ∧ k_ ≠ gb601 ∧ k_ ≠ gb602 ∧ k_ ≠ gb603)) (HO_3.out) (fun k_ hk => ⟨hk.1, ⟨hk.2.1, ⟨hk.2.2.1, hk.2.2.2⟩⟩⟩))))) (Reps.none _ _)))); intro v622 w54 ho55 hb hg_ hnew_; clear hg_ hnew_; (first | rw [← Ny621.out] at ho55 | (simp only [Int.reduceToNat] at ho55; rw [← Ny621.out] at ho55)); replace HO_3 := Aside0.mk (Kd.V_elder' (by (with_reducible repeat (first | apply Kd.V_alloc | apply Kd.V_drewN | apply Kd.V_drew)); exact HO_3.out) (Kd.N_base ho55) hb); replace HO_602000 := Aside0.mk (Kd.V_elder' (by (with_reducible repeat (first | apply Kd.V_alloc | apply Kd.V_drewN | apply Kd.V_drew)); exact HO_602000.out) (Kd.N_base ho55) hb); have HO623 := Aside0.mk (Kd.N_lower ho55 (sz_ HB)); replace BK601 := kl_ BK601 hb; replace BK602 := kl_ BK602 hb; replace BK603 := kl_ BK603 hb; replace HB := ss_ HB hb; clear hb ho55; obtain ⟨Ao56, co56, eo56⟩ := Kd.N_slice HO623.out; subst eo56) | ((with_reducible refine gq_ 106 45 ?_); refine gc_ 45 Try.func106 (slices_Concat_string_string.calls kj4 _ _ y621 t624 _ (cr_ (Kd.N_reads' HO623.out).2.2) ((Kd.N_reads' HO623.out).2.1) A44.out) ?_; rintro e w57 ⟨v625, rfl, ho0, hb⟩; refine ⟨_, rfl, ?_⟩; replace HO_3 := Aside0.mk (Kd.V_elder' (by (with_reducible repeat (first | apply Kd.V_alloc | apply Kd.V_drewN | apply Kd.V_drew)); exact HO_3.out) (Kd.R_base ho0) hb); replace HO_602000 := Aside0.mk (Kd.V_elder' (by (with_reducible repeat (first | apply Kd.V_alloc | apply Kd.V_drewN | apply Kd.V_drew)); exact HO_602000.out) (Kd.R_base ho0) hb); replace HO623 := Aside0.mk (Kd.N_elder' (by (with_reducible repeat (first | apply Kd.N_alloc | apply Kd.N_drewN | apply Kd.N_drew)); exact HO623.out) (Kd.R_base ho0) hb); have HO626 := Aside0.mk (Kd.R_lower (Kd.R_newM (M := fun k_ => (w.heap.size ≤ k_)) ho0 (sz_ HB) (fun k_ h_ => h_)) (sz_ HB)); replace BK601 := kl_ BK601 hb; replace BK602 := kl_ BK602 hb; replace BK603 := kl_ BK603 hb; replace HB := ss_ HB hb; clear hb ho0))
       replace HO_3 := Aside0.mk (Kd.V_drew HO_3.out)
       replace HO_602000 := Aside0.mk (Kd.V_drew HO_602000.out)
       replace HO623 := Aside0.mk (Kd.N_drew HO623.out)
       replace HO626 := Aside0.mk (Kd.R_drew HO626.out)
       replace BK601 := Aside0.mk (blk_drew BK601.out)
       replace BK602 := Aside0.mk (blk_drew BK602.out)
       replace BK603 := Aside0.mk (blk_drew BK603.out)
       replace HB := Aside0.mk (below_drew1 HB.out)
       obtain ⟨Ao59, co59, eo59⟩ := Kd.R_slice HO626.out
       (first | subst eo59 | (injection eo59 with f1_ f2_ f3_; have f4_ := f1_.symm; have f5_ := f3_.symm; clear f1_ f2_ f3_; subst f4_; subst f5_))
       refine start_ (n := 4) (S := fun w' => w'.cell? ⟨gb602, 0, none⟩ = some (.int .i64 a2_0) ∧ w'.cell? ⟨gb602, 1, none⟩ = some (.string a2_1)) (ds := []) (lz_ 4 0) (by kernel_rfl) rfl rfl ⟨bc0_ BK602.out, bc1_ BK602.out⟩ (fun hHeld => ?_)
       generalize w57.drew = w58 at HO_3 HO_602000 HO623 HO626 BK601 BK602 BK603 HB hHeld ⊢
       refine pk_ 0 46 1 ?_
       refine tk_ 2 48 5 ?_
       refine one_ (i := 1) (N := some 47) (lz_ 4 7) rfl rfl (by kernel_rfl) (by decide) (fun K hK => ?_)
       refine gf_ Try.func12 (impl_HeadOf.calls kj4 _ _ t624 t627 t628 _ (ch_ HO626) (cl_ HO626) A45.out) ?_
       rintro e w60 ⟨rfl, hb⟩
       refine ⟨_, rfl, ?_⟩
       replace HO_3 := Aside0.mk (Kd.V_below (by (with_reducible repeat (first | apply Kd.V_alloc | apply Kd.V_drewN | apply Kd.V_drew)); exact HO_3.out) hb)
       replace HO_602000 := Aside0.mk (Kd.V_below (by (with_reducible repeat (first | apply Kd.V_alloc | apply Kd.V_drewN | apply Kd.V_drew)); exact HO_602000.out) hb)
       replace HO623 := Aside0.mk (Kd.N_below (by (with_reducible repeat (first | apply Kd.N_alloc | apply Kd.N_drewN | apply Kd.N_drew)); exact HO623.out) hb)
       replace HO626 := rb_ HO626 hb
       replace BK601 := kl_ BK601 hb
       replace BK602 := kl_ BK602 hb
       replace BK603 := kl_ BK603 hb
       replace HB := ss_ HB hb
       clear hb
       refine hK.out _ _ ⟨bc0_ BK602.out, bc1_ BK602.out⟩ (fun hHeld => ?_)
       clear hK K
       refine no_ 47 ?_
       refine pk_ 3 49 15 ?_
       refine done_ (by kernel_rfl) ?_
       have hz61 := cz3_ BK601
       try go_wp2_with (first | ((with_reducible refine gq_ 63 51 ?_); refine gc_ 51 Try.func63 (impl_copyLog.calls _ _ l0_0 a0_1 a0_2 t629 t632 t633 _ (cr_ (Kd.V_reads' HO_602000.out).2.2) ((Kd.V_reads' HO_602000.out).2.1) A47.out) ?_; rintro e w62 ⟨v630, rfl, ho0, hb⟩; refine ⟨_, rfl, ?_⟩; replace HO_3 := Aside0.mk (Kd.V_elder' (by (with_reducible repeat (first | apply Kd.V_alloc | apply Kd.V_drewN | apply Kd.V_drew)); exact HO_3.out) (Kd.R_base ho0) hb); replace HO_602000 := Aside0.mk (Kd.V_elder' (by (with_reducible repeat (first | apply Kd.V_alloc | apply Kd.V_drewN | apply Kd.V_drew)); exact HO_602000.out) (Kd.R_base ho0) hb); replace HO623 := Aside0.mk (Kd.N_elder' (by (with_reducible repeat (first | apply Kd.N_alloc | apply Kd.N_drewN | apply Kd.N_drew)); exact HO623.out) (Kd.R_base ho0) hb); have HO631 := Aside0.mk (Kd.R_lower (Kd.R_new' (Kd.R_newM (M := fun k_ => (w.heap.size ≤ k_)) ho0 (sz_ HB) (fun k_ h_ => h_)) (lt_ HO626)) (sz_ HB)); replace HO626 := re_ HO626 ho0 hb; replace BK601 := kl_ BK601 hb; replace BK602 := kl_ BK602 hb; replace BK603 := kl_ BK603 hb; replace HB := ss_ HB hb; clear hb ho0; obtain ⟨Ao63, co63, eo63⟩ := Kd.R_slice HO631.out; subst eo63; have hz64 := cz3_ BK603))
       refine bodyPost_ret (results_ct rfl _ _ gb603 31 #[.slice Ao63 t629.length co63, .int .i64 t632, .string t633] (0, 0) _ rfl (by exact kq_ BK603) Try.underlying31 rfl (by kernel_rfl)) rfl ?_
       exact ⟨_, e2_, by (with_reducible repeat (first | apply Kd.R_alloc | apply Kd.R_drewN | apply Kd.R_drew)); exact Kd.R_mono (Kd.R_far (p := ⟨gb603, 2, none⟩) (Kd.R_far (p := ⟨gb603, 1, none⟩) (Kd.R_far (p := ⟨gb603, 0, none⟩) (Kd.R_types HO631.out BK603.out (by decide)) (fun _ hk => hk.2) (.slice Ao63 t629.length co63)) (fun _ hk => hk.2) (.int .i64 t632)) (fun _ hk => hk.2) (.string t633)) (fun _ hk => hk.1.1.1), bw_ HB⟩
      ·have c46b0 : (!(t627 == a2_0) || (!(t628.toList == a2_1.toList))) = false := by simpa using c46
       clear c46
       replace H := so4_ H; obtain ⟨rfl, rfl, rfl, rfl⟩ := H
       have hnb65 := NB602_601.out
       have hnc65 := NB601_602.out
       have hnb66 := NB602_603.out
       have hnc66 := NB603_602.out
       have hz67 := cz2_ BK602
       try go_wp2_with (first | ((with_reducible refine gq_ 22 31 ?_); refine gc_ 31 Try.func22 (impl_IsSigned.calls kj4 _ _ l1 a2_0 a2_1 true _ (cb_ HR1 HB) HC1.out A31.out) ?_; rintro e w68 ⟨rfl, hb⟩; refine ⟨_, rfl, ?_⟩; replace HO_3 := Aside0.mk (Kd.V_below (by (with_reducible repeat (first | apply Kd.V_alloc | apply Kd.V_drewN | apply Kd.V_drew)); exact HO_3.out) hb); replace HO_602000 := Aside0.mk (Kd.V_below (by (with_reducible repeat (first | apply Kd.V_alloc | apply Kd.V_drewN | apply Kd.V_drew)); exact HO_602000.out) hb); replace BK601 := kl_ BK601 hb; replace BK602 := kl_ BK602 hb; replace BK603 := kl_ BK603 hb; replace HB := ss_ HB hb; clear hb; have hnb69 := NB601_603.out; have hnc69 := NB603_601.out; have hz70 := cz3_ BK601) | ((with_reducible refine gd_ 44 ?_); (try (refine gate_guard (by rfl) ?_; dsimp only)); refine Kd.N_lit (Kd.slice 9 Kd.string) _ 24 ?hg (N' := 44) ?hd (xs := ([l0_0, l3] : List (List ByteArray))) (inner := [.slice A0_0 l0_0.length c0_0, .slice A3 l3.length c3]) (ok := (fun k_ => ((P0_0_ k_ ∨ P3_ k_) ∨ w.heap.size ≤ k_) ∧ k_ ≠ gb601 ∧ k_ ≠ gb602 ∧ k_ ≠ gb603)) (okp := (fun k_ => ((P0_0_ k_ ∨ P3_ k_) ∨ w.heap.size ≤ k_) ∧ k_ ≠ gb601 ∧ k_ ≠ gb602 ∧ k_ ≠ gb603)) ?hr ?hp (fun _ hk => hk) ((show ∀ k_, w68.heap.size ≤ k_ → (fun k_ => ((P0_0_ k_ ∨ P3_ k_) ∨ w.heap.size ≤ k_) ∧ k_ ≠ gb601 ∧ k_ ≠ gb602 ∧ k_ ≠ gb603) k_ from fun k_ hk => ⟨(.inr (Nat.le_trans (sz_ HB) hk)), Kd.freshB (kb_ BK601.out) k_ hk, Kd.freshB (kb_ BK602.out) k_ hk, Kd.freshB (kb_ BK603.out) k_ hk⟩) _ (Nat.le_refl _)) (Below.refl _ _) (Nat.le_refl _) (by simp) ?_; (case hd => rfl); (case hg => rfl); (case hr => first | (go_simp; done) | (go_simp; rfl)); (case hp => exact (Reps.one (show Kd.FK (Kd.slice 9 Kd.string) _ _ l0_0 [.slice A0_0 l0_0.length c0_0] from (Kd.FK_slice_mk (Kd.V_reads' (Kd.V_mono (ok' := (fun k_ => ((P0_0_ k_ ∨ P3_ k_) ∨ w.heap.size ≤ k_) ∧ k_ ≠ gb601 ∧ k_ ≠ gb602 ∧ k_ ≠ gb603)) (HO_602000.out) (fun k_ hk => ⟨hk.1, ⟨hk.2.1, ⟨hk.2.2.1, hk.2.2.2⟩⟩⟩))).2.1 (Kd.V_F (Kd.V_mono (ok' := (fun k_ => ((P0_0_ k_ ∨ P3_ k_) ∨ w.heap.size ≤ k_) ∧ k_ ≠ gb601 ∧ k_ ≠ gb602 ∧ k_ ≠ gb603)) (HO_602000.out) (fun k_ hk => ⟨hk.1, ⟨hk.2.1, ⟨hk.2.2.1, hk.2.2.2⟩⟩⟩))))) (Reps.one (show Kd.FK (Kd.slice 9 Kd.string) _ _ l3 [.slice A3 l3.length c3] from (Kd.FK_slice_mk (Kd.V_reads' (Kd.V_mono (ok' := (fun k_ => ((P0_0_ k_ ∨ P3_ k_) ∨ w.heap.size ≤ k_) ∧ k_ ≠ gb601 ∧ k_ ≠ gb602 ∧ k_ ≠ gb603)) (HO_3.out) (fun k_ hk => ⟨hk.1, ⟨hk.2.1, ⟨hk.2.2.1, hk.2.2.2⟩⟩⟩))).2.1 (Kd.V_F (Kd.V_mono (ok' := (fun k_ => ((P0_0_ k_ ∨ P3_ k_) ∨ w.heap.size ≤ k_) ∧ k_ ≠ gb601 ∧ k_ ≠ gb602 ∧ k_ ≠ gb603)) (HO_3.out) (fun k_ hk => ⟨hk.1, ⟨hk.2.1, ⟨hk.2.2.1, hk.2.2.2⟩⟩⟩))))) (Reps.none _ _)))); intro v622 w71 ho72 hb hg_ hnew_; clear hg_ hnew_; (first | rw [← Ny621.out] at ho72 | (simp only [Int.reduceToNat] at ho72; rw [← Ny621.out] at ho72)); replace HO_3 := Aside0.mk (Kd.V_elder' (by (with_reducible repeat (first | apply Kd.V_alloc | apply Kd.V_drewN | apply Kd.V_drew)); exact HO_3.out) (Kd.N_base ho72) hb); replace HO_602000 := Aside0.mk (Kd.V_elder' (by (with_reducible repeat (first | apply Kd.V_alloc | apply Kd.V_drewN | apply Kd.V_drew)); exact HO_602000.out) (Kd.N_base ho72) hb); have HO623 := Aside0.mk (Kd.N_lower ho72 (sz_ HB)); replace BK601 := kl_ BK601 hb; replace BK602 := kl_ BK602 hb; replace BK603 := kl_ BK603 hb; replace HB := ss_ HB hb; clear hb ho72; obtain ⟨Ao73, co73, eo73⟩ := Kd.N_slice HO623.out; subst eo73) | ((with_reducible refine gq_ 106 45 ?_); refine gc_ 45 Try.func106 (slices_Concat_string_string.calls kj4 _ _ y621 t624 _ (cr_ (Kd.N_reads' HO623.out).2.2) ((Kd.N_reads' HO623.out).2.1) A44.out) ?_; rintro e w74 ⟨v625, rfl, ho0, hb⟩; refine ⟨_, rfl, ?_⟩; replace HO_3 := Aside0.mk (Kd.V_elder' (by (with_reducible repeat (first | apply Kd.V_alloc | apply Kd.V_drewN | apply Kd.V_drew)); exact HO_3.out) (Kd.R_base ho0) hb); replace HO_602000 := Aside0.mk (Kd.V_elder' (by (with_reducible repeat (first | apply Kd.V_alloc | apply Kd.V_drewN | apply Kd.V_drew)); exact HO_602000.out) (Kd.R_base ho0) hb); replace HO623 := Aside0.mk (Kd.N_elder' (by (with_reducible repeat (first | apply Kd.N_alloc | apply Kd.N_drewN | apply Kd.N_drew)); exact HO623.out) (Kd.R_base ho0) hb); have HO626 := Aside0.mk (Kd.R_lower (Kd.R_newM (M := fun k_ => (w.heap.size ≤ k_)) ho0 (sz_ HB) (fun k_ h_ => h_)) (sz_ HB)); replace BK601 := kl_ BK601 hb; replace BK602 := kl_ BK602 hb; replace BK603 := kl_ BK603 hb; replace HB := ss_ HB hb; clear hb ho0))
       replace HO_3 := Aside0.mk (Kd.V_drew HO_3.out)
       replace HO_602000 := Aside0.mk (Kd.V_drew HO_602000.out)
       replace HO623 := Aside0.mk (Kd.N_drew HO623.out)
       replace HO626 := Aside0.mk (Kd.R_drew HO626.out)
       replace BK601 := Aside0.mk (blk_drew BK601.out)
       replace BK602 := Aside0.mk (blk_drew BK602.out)
       replace BK603 := Aside0.mk (blk_drew BK603.out)
       replace HB := Aside0.mk (below_drew1 HB.out)
       obtain ⟨Ao76, co76, eo76⟩ := Kd.R_slice HO626.out
       (first | subst eo76 | (injection eo76 with f1_ f2_ f3_; have f4_ := f1_.symm; have f5_ := f3_.symm; clear f1_ f2_ f3_; subst f4_; subst f5_))
       refine start_ (n := 4) (S := fun w' => w'.cell? ⟨gb602, 0, none⟩ = some (.int .i64 a2_0) ∧ w'.cell? ⟨gb602, 1, none⟩ = some (.string a2_1)) (ds := []) (lz_ 4 0) (by kernel_rfl) rfl rfl ⟨bc0_ BK602.out, bc1_ BK602.out⟩ (fun hHeld => ?_)
       generalize w74.drew = w75 at HO_3 HO_602000 HO623 HO626 BK601 BK602 BK603 HB hHeld ⊢
       refine pk_ 0 46 1 ?_
       refine tk_ 2 48 5 ?_
       refine one_ (i := 1) (N := some 47) (lz_ 4 7) rfl rfl (by kernel_rfl) (by decide) (fun K hK => ?_)
       refine gf_ Try.func12 (impl_HeadOf.calls kj4 _ _ t624 t627 t628 _ (ch_ HO626) (cl_ HO626) A45.out) ?_
       rintro e w77 ⟨rfl, hb⟩
       refine ⟨_, rfl, ?_⟩
       replace HO_3 := Aside0.mk (Kd.V_below (by (with_reducible repeat (first | apply Kd.V_alloc | apply Kd.V_drewN | apply Kd.V_drew)); exact HO_3.out) hb)
       replace HO_602000 := Aside0.mk (Kd.V_below (by (with_reducible repeat (first | apply Kd.V_alloc | apply Kd.V_drewN | apply Kd.V_drew)); exact HO_602000.out) hb)
       replace HO623 := Aside0.mk (Kd.N_below (by (with_reducible repeat (first | apply Kd.N_alloc | apply Kd.N_drewN | apply Kd.N_drew)); exact HO623.out) hb)
       replace HO626 := rb_ HO626 hb
       replace BK601 := kl_ BK601 hb
       replace BK602 := kl_ BK602 hb
       replace BK603 := kl_ BK603 hb
       replace HB := ss_ HB hb
       clear hb
       refine hK.out _ _ ⟨bc0_ BK602.out, bc1_ BK602.out⟩ (fun hHeld => ?_)
       clear hK K
       refine no_ 47 ?_
       refine pk_ 3 49 15 ?_
       refine done_ (by kernel_rfl) ?_
       have hz78 := cz2_ BK602
       have hz79 := cz3_ BK603
       try go_wp2
       refine bodyPost_ret (results_ct rfl _ _ gb603 31 #[.slice Ao76 t624.length co76, .int .i64 a2_0, .string a2_1] (0, 0) _ rfl (by exact kq_ BK603) Try.underlying31 rfl (by kernel_rfl)) rfl ?_
       exact ⟨_, e2_, by (with_reducible repeat (first | apply Kd.R_alloc | apply Kd.R_drewN | apply Kd.R_drew)); exact Kd.R_mono (Kd.R_far (p := ⟨gb603, 2, none⟩) (Kd.R_far (p := ⟨gb603, 1, none⟩) (Kd.R_far (p := ⟨gb603, 0, none⟩) (Kd.R_types HO626.out BK603.out (by decide)) (fun _ hk => hk.2) (.slice Ao76 t624.length co76)) (fun _ hk => hk.2) (.int .i64 a2_0)) (fun _ hk => hk.2) (.string a2_1)) (fun _ hk => hk.1.1), bw_ HB⟩
    ·replace H := bi_ H; obtain ⟨⟨t616, t619, t620⟩, A80, H⟩ := H
     dsimp only at H
     replace H := so4_ H; obtain ⟨rfl, rfl, rfl, rfl⟩ := H
     have hnb81 := NB602_601.out
     have hnc81 := NB601_602.out
     have hnb82 := NB602_603.out
     have hnc82 := NB603_602.out
     have hz83 := cz2_ BK602
     go_wp2_with (first | ((with_reducible refine gq_ 22 31 ?_); refine gc_ 31 Try.func22 (impl_IsSigned.calls kj4 _ _ l1 a2_0 a2_1 false _ (cb_ HR1 HB) HC1.out A31.out) ?_; rintro e w84 ⟨rfl, hb⟩; refine ⟨_, rfl, ?_⟩; replace HO_3 := Aside0.mk (Kd.V_below (by (with_reducible repeat (first | apply Kd.V_alloc | apply Kd.V_drewN | apply Kd.V_drew)); exact HO_3.out) hb); replace HO_602000 := Aside0.mk (Kd.V_below (by (with_reducible repeat (first | apply Kd.V_alloc | apply Kd.V_drewN | apply Kd.V_drew)); exact HO_602000.out) hb); replace BK601 := kl_ BK601 hb; replace BK602 := kl_ BK602 hb; replace BK603 := kl_ BK603 hb; replace HB := ss_ HB hb; clear hb; have hnb85 := NB601_603.out; have hnc85 := NB603_601.out; have hz86 := cz3_ BK601) | ((with_reducible refine gq_ 63 34 ?_); refine gc_ 34 Try.func63 (impl_copyLog.calls _ _ l0_0 a0_1 a0_2 t616 t619 t620 _ (cr_ (Kd.V_reads' HO_602000.out).2.2) ((Kd.V_reads' HO_602000.out).2.1) A80.out) ?_; rintro e w87 ⟨v617, rfl, ho0, hb⟩; refine ⟨_, rfl, ?_⟩; replace HO_3 := Aside0.mk (Kd.V_elder' (by (with_reducible repeat (first | apply Kd.V_alloc | apply Kd.V_drewN | apply Kd.V_drew)); exact HO_3.out) (Kd.R_base ho0) hb); replace HO_602000 := Aside0.mk (Kd.V_elder' (by (with_reducible repeat (first | apply Kd.V_alloc | apply Kd.V_drewN | apply Kd.V_drew)); exact HO_602000.out) (Kd.R_base ho0) hb); have HO618 := Aside0.mk (Kd.R_lower (Kd.R_newM (M := fun k_ => (w.heap.size ≤ k_)) ho0 (sz_ HB) (fun k_ h_ => h_)) (sz_ HB)); replace BK601 := kl_ BK601 hb; replace BK602 := kl_ BK602 hb; replace BK603 := kl_ BK603 hb; replace HB := ss_ HB hb; clear hb ho0; obtain ⟨Ao88, co88, eo88⟩ := Kd.R_slice HO618.out; subst eo88; have hz89 := cz3_ BK603))
     refine bodyPost_ret (results_ct rfl _ _ gb603 31 #[.slice Ao88 t616.length co88, .int .i64 t619, .string t620] (0, 0) _ rfl (by exact kq_ BK603) Try.underlying31 rfl (by kernel_rfl)) rfl ?_
     exact ⟨_, e2_, by (with_reducible repeat (first | apply Kd.R_alloc | apply Kd.R_drewN | apply Kd.R_drew)); exact Kd.R_mono (Kd.R_far (p := ⟨gb603, 2, none⟩) (Kd.R_far (p := ⟨gb603, 1, none⟩) (Kd.R_far (p := ⟨gb603, 0, none⟩) (Kd.R_types HO618.out BK603.out (by decide)) (fun _ hk => hk.2) (.slice Ao88 t616.length co88)) (fun _ hk => hk.2) (.int .i64 t619)) (fun _ hk => hk.2) (.string t620)) (fun _ hk => hk.1.1), bw_ HB⟩
end Go.Proofs.Ytjnnglphdaemaaa.Q
end

section
-- Written by a program of this session (wip/tools/pp.sh) over the print of the kit.
namespace Go.Proofs.Ytjnnglphdaemaaa.Q
open Go.RowKit Go.Proofs.YtjnnglphdaemaaaW.PrintWords Go.Proofs.YtjnnglphdaemaaaW.PrintLast Go.Proofs.YtjnnglphdaemaaaW.PrintMore
attribute [local go_sem] max2_int min2_int max_two min_two max_three min_three max_four min_four   -- for this text's walks alone
set_option linter.unusedVariables false
set_option linter.unusedSimpArgs false
end Go.Proofs.Ytjnnglphdaemaaa.Q
end

section
/- Extend, the program's and the reference's: they return the same. -/
namespace Go.Proofs.Ytjnnglphdaemaaa.Q
open Go.RowKit Go.Proofs.Ytjnnglphdaemaaa.B Go.Proofs.YtjnnglphdaemaaaW.PrintWords
set_option linter.unusedVariables false
def isHead (l : List ByteArray) (a : Int) (z : ByteArray) : Bool := a == (headOf l).1 && (z.toList == (headOf l).2.toList)
def extOf (t : List IHead) (l : List ByteArray) (n : Int) (s : ByteArray) (a : Int) (z : ByteArray) (x : List ByteArray) : List ByteArray × Int × ByteArray × Int :=
 if (headOk a z && (a == ((l.length + x.length : Nat) : Int))) = true then
  (if hasHead t a z = true then (if x.length = 0 then (l, n, s, 3) else (if isHead (l ++ x) a z = true then (l ++ x, a, z, 0) else (l, n, s, 4))) else (l, n, s, 2))
 else (l, n, s, 1)
def extendOf (t : List IHead) (l : List ByteArray) (n : Int) (s : ByteArray) (a : Int) (z : ByteArray) (x : List ByteArray) : List ByteArray × Int × ByteArray × Int :=
 if logOk l n s = true then extOf t l n s a z x else (l, n, s, 1)
theorem ne_head (a b : Int) (u v : List UInt8) : (!(a == b) || !(u == v)) = !(a == b && (u == v)) := by simp
theorem head_sym (a b : Int) (u v : List UInt8) : (a == b && (u == v)) = (b == a && (v == u)) := by rw [Bool.beq_comm (a := a), Bool.beq_comm (a := u)]
theorem extend_j0S (t : List IHead) (l : List ByteArray) (n : Int) (s : ByteArray) (a : Int) (z : ByteArray) (x : List ByteArray) (ht : t.length ≤ 9223372036854775807) (hs : ∀ y ∈ l ++ x, y.size ≤ bigB) (hf : Bool) :
  Ev (fun k => spec_Extend.j0 k t x (l ++ x) hf a z l n s) (if hf = true then (l, n, s, 1) else (if hasHead t a z = true then (if x.length = 0 then (l, n, s, 3) else (if isHead (l ++ x) a z = true then (l ++ x, a, z, 0) else (l, n, s, 4))) else (l, n, s, 2))) := by
 refine Ev.step (fun k => by simp only [spec_Extend.j0]; rfl) ?_
 cases hf with
 | true => exact Ev.pos rfl (Ev.now _)
 | false =>
  refine Ev.neg (by simp) (Ev.bind (spec_IsSigned_ev t a z ht) ?_)
  rw [if_neg (by simp)]
  by_cases h1 : hasHead t a z = true
  ·rw [if_pos h1]
   refine Ev.pos h1 ?_
   by_cases h2 : x.length = 0
   ·rw [if_pos h2]
    exact Ev.pos (by omega) (Ev.now _)
   ·rw [if_neg h2]
    refine Ev.neg (by omega) (Ev.bind (spec_HeadOf_ev (l ++ x) hs) ?_)
    rw [ne_head]
    by_cases h3 : isHead (l ++ x) a z = true
    ·rw [if_pos h3]
     exact Ev.neg (by unfold isHead at h3; rw [h3]; simp) (Ev.now _)
    ·rw [if_neg h3]
     exact Ev.pos (by unfold isHead at h3; rw [Bool.eq_false_iff.mpr h3]; rfl) (Ev.now _)
  ·rw [if_neg h1]
   exact Ev.neg h1 (Ev.now _)
theorem extend_j0I (t : List IHead) (l : List ByteArray) (n : Int) (s : ByteArray) (a : Int) (z : ByteArray) (x : List ByteArray) (ht : t.length ≤ 9223372036854775807) (hs : ∀ y ∈ l ++ x, y.size ≤ bigB) (hl : l.length + x.length ≤ 1000000000) (hf : Bool) :
  Ev (fun k => impl_extend.j0 k t x hf l n s a z) (if hf = true then (l, n, s, 1) else (if hasHead t a z = true then (if x.length = 0 then (l, n, s, 3) else (if isHead (l ++ x) a z = true then (l ++ x, a, z, 0) else (l, n, s, 4))) else (l, n, s, 2))) := by
 have hc := impl_copyLog_eq l n s (by omega)
 refine Ev.step (fun k => by simp only [impl_extend.j0]; rfl) ?_
 cases hf with
 | true => exact Ev.pos rfl (Ev.bind (Ev.const hc) (Ev.now _))
 | false =>
  refine Ev.neg (by simp) (Ev.bind (impl_IsSigned_ev t a z ht) ?_)
  rw [if_neg (by simp)]
  by_cases h1 : hasHead t a z = true
  ·rw [if_pos h1]
   refine Ev.pos h1 ?_
   by_cases h2 : x.length = 0
   ·rw [if_pos h2]
    exact Ev.pos (by omega) (Ev.bind (Ev.const hc) (Ev.now _))
   ·rw [if_neg h2]
    refine Ev.neg (by omega) (Ev.bind (concat_ev l x hl (by omega)) (Ev.bind (impl_HeadOf_ev (l ++ x) hs) ?_))
    rw [ne_head, head_sym]
    by_cases h3 : isHead (l ++ x) a z = true
    ·rw [if_pos h3]
     exact Ev.neg (by unfold isHead at h3; rw [h3]; simp) (Ev.now _)
    ·rw [if_neg h3]
     exact Ev.pos (by unfold isHead at h3; rw [Bool.eq_false_iff.mpr h3]; rfl) (Ev.bind (Ev.const hc) (Ev.now _))
  ·rw [if_neg h1]
   exact Ev.neg h1 (Ev.bind (Ev.const hc) (Ev.now _))
theorem ext_form (t : List IHead) (l : List ByteArray) (n : Int) (s : ByteArray) (a : Int) (z : ByteArray) (x : List ByteArray) :
  extOf t l n s a z x = (if headOk a z = true then (if (a != ((l.length + x.length : Nat) : Int)) = true then (l, n, s, 1) else (if hasHead t a z = true then (if x.length = 0 then (l, n, s, 3) else (if isHead (l ++ x) a z = true then (l ++ x, a, z, 0) else (l, n, s, 4))) else (l, n, s, 2))) else (l, n, s, 1)) := by
 unfold extOf
 cases headOk a z <;> by_cases h : a = ((l.length + x.length : Nat) : Int) <;> simp [h]
theorem spec_Extend_ev (t : List IHead) (l : List ByteArray) (n : Int) (s : ByteArray) (a : Int) (z : ByteArray) (x : List ByteArray) (ht : t.length ≤ 9223372036854775807) (hs : ∀ y ∈ l ++ x, y.size ≤ bigB) (hl : l.length + x.length ≤ 1000000000) :
  Ev (fun k => spec_Extend.f k l n s t a z x) (extendOf t l n s a z x) := by
 have hs0 : ∀ y ∈ l, y.size ≤ bigB := fun y hy => hs y (List.mem_append_left _ hy)
 unfold spec_Extend.f extendOf
 rw [spec_l11Copy_eq l n s (by omega)]
 simp only [Option.bind_some, List.length_nil, List.nil_append, List.length_append, Nat.zero_add]
 refine Ev.pos (by omega) (Ev.pos (by omega) (Ev.bind (spec_LogOk_ev l n s hs0) ?_))
 by_cases h0 : logOk l n s = true
 ·rw [if_pos h0, ext_form]
  refine Ev.pos h0 (Ev.bind (Ev.const (spec_HeadOk_eq a z)) ?_)
  by_cases h1 : headOk a z = true
  ·rw [if_pos h1]
   exact Ev.pos h1 (extend_j0S t l n s a z x ht hs _)
  ·rw [if_neg h1]
   exact Ev.neg h1 (Ev.one (extend_j0S t l n s a z x ht hs true) (by rw [if_pos rfl]))
 ·rw [if_neg h0]
  exact Ev.neg h0 (Ev.one (extend_j0S t l n s a z x ht hs true) (by rw [if_pos rfl]))
theorem impl_extend_ev (t : List IHead) (l : List ByteArray) (n : Int) (s : ByteArray) (a : Int) (z : ByteArray) (x : List ByteArray) (ht : t.length ≤ 9223372036854775807) (hs : ∀ y ∈ l ++ x, y.size ≤ bigB) (hl : l.length + x.length ≤ 1000000000) :
  Ev (fun k => impl_extend.f k l n s t a z x) (extOf t l n s a z x) := by
 unfold impl_extend.f
 rw [ext_form]
 refine Ev.bind (Ev.const (impl_HeadOk_eq a z)) ?_
 by_cases h1 : headOk a z = true
 ·rw [if_pos h1, w64 (x := (l.length : Int) + (x.length : Int)) (by omega) (by omega)]
  exact Ev.pos h1 (extend_j0I t l n s a z x ht hs hl _)
 ·rw [if_neg h1]
  exact Ev.neg h1 (Ev.one (extend_j0I t l n s a z x ht hs hl true) (by rw [if_pos rfl]))
end Go.Proofs.Ytjnnglphdaemaaa.Q
end

section
-- Written by a program of this session (wip/tools/pp.sh) over the print of the kit.
namespace Go.Proofs.Ytjnnglphdaemaaa.Q
open Go.RowKit Go.Proofs.YtjnnglphdaemaaaW.PrintWords Go.Proofs.YtjnnglphdaemaaaW.PrintLast Go.Proofs.YtjnnglphdaemaaaW.PrintMore
attribute [local go_sem] max2_int min2_int max_two min_two max_three min_three max_four min_four   -- for this text's walks alone
set_option linter.unusedVariables false
set_option linter.unusedSimpArgs false
def impl_copyStore.f (l0_0 : List ByteArray) (a0_1 : Int) (a0_2 : ByteArray) (l0_3 : List Int) (a0_4 : Int) : Option (List ByteArray × Int × ByteArray × List Int × Int) := (impl_copyLog.f l0_0 a0_1 a0_2).bind fun bt603 => ((slices_Clone_byte_byte.f l0_3).bind fun t608 => (some (bt603.1, bt603.2.1, bt603.2.2, t608, a0_4)))
def impl_copyStore.T1 : Bool × List (List Nat × List Nat) := (true, [([], []), ([0], [0]), ([1], [1]), ([], []), ([3], [3]), ([4, 2], [4]), ([], []), ([6], [6]), ([2, 5, 7], [2, 5, 7]), ([8, 5, 0, 1, 2, 3, 4, 5, 6, 7, 8], [8])])
def impl_copyStore.B1 : List Nat := [0, 1, 3, 0, 8, 31, 0, 64, 255, 511]
theorem impl_copyStore.tab1 : rtab .any (opsOf Try.f65 1) = impl_copyStore.T1 := by kernel_rfl
theorem impl_copyStore.bits1 : waitsOk impl_copyStore.T1.2 impl_copyStore.B1 = true := by kernel_rfl
set_option maxHeartbeats 8000000 in
set_option maxRecDepth 100000 in
theorem impl_copyStore.calls (A0_0 : Option Addr) (c0_0 : Nat) (l0_0 : List ByteArray) (a0_1 : Int) (a0_2 : ByteArray) (A0_3 : Option Addr) (c0_3 : Nat) (l0_3 : List Int) (a0_4 : Int) (r1 : List ByteArray) (r2 : Int) (r3 : ByteArray) (r4 : List Int) (r5 : Int) (w : World) (hr0_0 : Kd.C Kd.string w A0_0 l0_0.length l0_0) (hc0_0 : l0_0.length ≤ c0_0) (hr0_3 : Kd.C (Kd.int .u8) w A0_3 l0_3.length l0_3) (hc0_3 : l0_3.length ≤ c0_3) (h : impl_copyStore.f l0_0 a0_1 a0_2 l0_3 a0_4 = some (r1, r2, r3, r4, r5)) :
  Calls Try.prog 65 #[.agg #[.slice A0_0 l0_0.length c0_0, .int .i64 a0_1, .string a0_2, .slice A0_3 l0_3.length c0_3, .int .i64 a0_4]] w fun e w' => ∃ v0_ v3_ : Value, e = .returned (.agg #[v0_, .int .i64 r2, .string r3, v3_, .int .i64 r5]) ∧ Kd.R Kd.string 9 w' w.heap.size (fun _ => True) v0_ r1 ∧ Kd.R (Kd.int .u8) 5 w' w.heap.size (fun _ => True) v3_ r4 ∧ Below w.heap.size w w' := by
 have hu37 := Try.underlying37
 have hu31 := Try.underlying31
 have HR0_0 := Aside0.mk hr0_0
 have HC0_0 := Aside0.mk hc0_0
 clear hr0_0 hc0_0
 have HR0_3 := Aside0.mk hr0_3
 have HC0_3 := Aside0.mk hc0_3
 clear hr0_3 hc0_3
 have HB := Aside0.mk (Below.refl w.heap.size w)
 have H : ((impl_copyLog.f l0_0 a0_1 a0_2).bind fun bt603 => ((slices_Clone_byte_byte.f l0_3).bind fun t608 => (some (bt603.1, bt603.2.1, bt603.2.2, t608, a0_4)))) = some (r1, r2, r3, r4, r5) := h
 clear h
 replace H := bi_ H; obtain ⟨⟨t603, t606, t607⟩, A2, H⟩ := H
 dsimp only at H
 replace H := bi_ H; obtain ⟨t608, A3, H⟩ := H
 replace H := so5_ H; obtain ⟨rfl, rfl, rfl, rfl, rfl⟩ := H
 go_enter Try.func65, Try.ntmps65
 try go_wp2_with (first | ((with_reducible refine gd_ 1 ?_); refine bx_ 1 37 #[.slice A0_0 l0_0.length c0_0, .int .i64 a0_1, .string a0_2, .slice A0_3 l0_3.length c0_3, .int .i64 a0_4] ?_; intro gb601 hg w4 hbox hb; have BK601 := Aside0.mk hbox; have GW601 := gg_ hg HB; have GE601 := GW601; replace HB := ss_ HB hb; clear hb hbox hg) | ((with_reducible refine gd_ 2 ?_); refine bx_ 2 37 #[.slice none 0 0, .int .i64 0, .string (⟨#[]⟩ : ByteArray), .slice none 0 0, .int .i64 0] ?_; intro gb602 hg w5 hbox hb; have BK602 := Aside0.mk hbox; have GW602 := gg_ hg HB; have GE602 := GW602; replace HB := ss_ HB hb; have NB601_602 := nla_ hg BK601; have NB602_601 := nga_ hg BK601; replace BK601 := kl_ BK601 hb; clear hb hbox hg))
 replace BK601 := Aside0.mk (blk_drew BK601.out)
 replace BK602 := Aside0.mk (blk_drew BK602.out)
 replace HB := Aside0.mk (below_drew1 HB.out)
 refine start_ (n := 10) (S := fun w' => w'.cell? ⟨gb601, 0, none⟩ = some (.slice A0_0 l0_0.length c0_0) ∧ w'.cell? ⟨gb601, 1, none⟩ = some (.int .i64 a0_1) ∧ w'.cell? ⟨gb601, 2, none⟩ = some (.string a0_2) ∧ w'.cell? ⟨gb601, 3, none⟩ = some (.slice A0_3 l0_3.length c0_3) ∧ w'.cell? ⟨gb601, 4, none⟩ = some (.int .i64 a0_4)) (ds := []) (lz_ 10 0) (by kernel_rfl) rfl rfl ⟨bc0_ BK601.out, bc1_ BK601.out, bc2_ BK601.out, bc3_ BK601.out, bc4_ BK601.out⟩ (fun hHeld => ?_); refine with_tabW impl_copyStore.tab1 impl_copyStore.bits1 (fun HT_ HW_ => ?_)
 generalize w5.drew = w6 at BK601 BK602 HB hHeld ⊢
 refine pt_ 0 3 1 ?_
 refine pt_ 3 6 9 ?_
 refine pt_ 6 9 73 ?_
 refine tt_ 1 4 75 ?_
 refine tt_ 4 7 91 ?_
 refine tt_ 7 10 219 ?_
 refine one_ (i := 2) (N := some 5) (lz_ 10 223) rfl rfl (one_of HT_.out (by kernel_rfl)) (by decide) (fun K hK => ?_)
 refine gf_ Try.func63 (impl_copyLog.calls _ _ l0_0 a0_1 a0_2 t603 t606 t607 _ (cb_ HR0_0 HB) HC0_0.out A2.out) ?_
 rintro e w7 ⟨v604, rfl, ho0, hb⟩
 refine ⟨_, rfl, ?_⟩
 have HO605 := Aside0.mk (Kd.R_lower ho0 (sz_ HB))
 replace BK601 := kl_ BK601 hb
 replace BK602 := kl_ BK602 hb
 replace HB := ss_ HB hb
 clear hb ho0
 refine hK.out _ _ ⟨bc0_ BK601.out, bc1_ BK601.out, bc2_ BK601.out, bc3_ BK601.out, bc4_ BK601.out⟩ (fun hHeld => ?_)
 clear hK K
 refine no_ 5 ?_
 refine one_ (i := 5) (N := some 8) (lz_ 10 255) rfl rfl (one_of HT_.out (by kernel_rfl)) (by decide) (fun K hK => ?_)
 refine gf_ Try.func85 (slices_Clone_byte_byte.calls _ _ l0_3 t608 _ (cb_ HR0_3 HB) HC0_3.out A3.out) ?_
 rintro e w8 ⟨v609, rfl, ho0, hb⟩
 refine ⟨_, rfl, ?_⟩
 replace HO605 := rb_ HO605 hb
 have HO610 := Aside0.mk (Kd.R_lower ho0 (sz_ HB))
 replace BK601 := kl_ BK601 hb
 replace BK602 := kl_ BK602 hb
 replace HB := ss_ HB hb
 clear hb ho0
 obtain ⟨Ao9, co9, eo9⟩ := Kd.R_slice HO610.out
 (first | subst eo9 | (injection eo9 with f1_ f2_ f3_; have f4_ := f1_.symm; have f5_ := f3_.symm; clear f1_ f2_ f3_; subst f4_; subst f5_))
 obtain ⟨Ao10, co10, eo10⟩ := Kd.R_slice HO605.out
 (first | subst eo10 | (injection eo10 with f1_ f2_ f3_; have f4_ := f1_.symm; have f5_ := f3_.symm; clear f1_ f2_ f3_; subst f4_; subst f5_))
 refine hK.out _ _ ⟨bc0_ BK601.out, bc1_ BK601.out, bc2_ BK601.out, bc3_ BK601.out, bc4_ BK601.out⟩ (fun hHeld => ?_)
 clear hK K
 refine no_ 8 ?_
 refine pt_ 8 11 511 ?_
 refine one_ (i := 9) (N := none) (lz_ 10 1023) rfl rfl (one_of HT_.out (by kernel_rfl)) (by decide) (fun K hK => ?_)
 have hs11 := bc0_ BK602.out
 have hfs11 := blk_frozen BK602.out 0
 have hns11_0 := NB601_602.out
 have hms11_0 := NB602_601.out
 have hs12 := bc1_ BK602.out
 have hfs12 := blk_frozen BK602.out 1
 have hns12_0 := NB601_602.out
 have hms12_0 := NB602_601.out
 have hs13 := bc2_ BK602.out
 have hfs13 := blk_frozen BK602.out 2
 have hns13_0 := NB601_602.out
 have hms13_0 := NB602_601.out
 have hs14 := bc3_ BK602.out
 have hfs14 := blk_frozen BK602.out 3
 have hns14_0 := NB601_602.out
 have hms14_0 := NB602_601.out
 have hs15 := bc4_ BK602.out
 have hfs15 := blk_frozen BK602.out 4
 have hns15_0 := NB601_602.out
 have hms15_0 := NB602_601.out
 refine skip_ (w1 := ?_) (by rfl) rfl ?_ ?_
 rotate_left
 ·go_simp
  rfl
 refine hK.out _ _ ⟨((cell_far (p := ⟨gb602, _, none⟩) NB601_602.out _).trans (((cell_far (p := ⟨gb602, _, none⟩) NB601_602.out _).trans (((cell_far (p := ⟨gb602, _, none⟩) NB601_602.out _).trans (((cell_far (p := ⟨gb602, _, none⟩) NB601_602.out _).trans (((cell_far (p := ⟨gb602, _, none⟩) NB601_602.out _).trans (hHeld.1)))))))))), ((cell_far (p := ⟨gb602, _, none⟩) NB601_602.out _).trans (((cell_far (p := ⟨gb602, _, none⟩) NB601_602.out _).trans (((cell_far (p := ⟨gb602, _, none⟩) NB601_602.out _).trans (((cell_far (p := ⟨gb602, _, none⟩) NB601_602.out _).trans (((cell_far (p := ⟨gb602, _, none⟩) NB601_602.out _).trans (hHeld.2.1)))))))))), ((cell_far (p := ⟨gb602, _, none⟩) NB601_602.out _).trans (((cell_far (p := ⟨gb602, _, none⟩) NB601_602.out _).trans (((cell_far (p := ⟨gb602, _, none⟩) NB601_602.out _).trans (((cell_far (p := ⟨gb602, _, none⟩) NB601_602.out _).trans (((cell_far (p := ⟨gb602, _, none⟩) NB601_602.out _).trans (hHeld.2.2.1)))))))))), ((cell_far (p := ⟨gb602, _, none⟩) NB601_602.out _).trans (((cell_far (p := ⟨gb602, _, none⟩) NB601_602.out _).trans (((cell_far (p := ⟨gb602, _, none⟩) NB601_602.out _).trans (((cell_far (p := ⟨gb602, _, none⟩) NB601_602.out _).trans (((cell_far (p := ⟨gb602, _, none⟩) NB601_602.out _).trans (hHeld.2.2.2.1)))))))))), ((cell_far (p := ⟨gb602, _, none⟩) NB601_602.out _).trans (((cell_far (p := ⟨gb602, _, none⟩) NB601_602.out _).trans (((cell_far (p := ⟨gb602, _, none⟩) NB601_602.out _).trans (((cell_far (p := ⟨gb602, _, none⟩) NB601_602.out _).trans (((cell_far (p := ⟨gb602, _, none⟩) NB601_602.out _).trans (hHeld.2.2.2.2))))))))))⟩ (fun hHeld => ?_)
 clear hK K
 refine done_ (done_of HT_.out (by kernel_rfl)) ?_
 try go_wp2
 refine bodyPost_ret (results_cell_row rfl _ _ gb602 37 #[.slice Ao10 t603.length co10, .int .i64 t606, .string t607, .slice Ao9 t608.length co9, .int .i64 a0_4] (0, 0) _ rfl (by exact kq_ BK602) Try.underlying37 rfl (by kernel_rfl)) rfl ?_
 exact ⟨_, _, e2_, by (with_reducible repeat (first | apply Kd.R_alloc | apply Kd.R_drewN | apply Kd.R_drew)); exact Kd.R_mono (Kd.R_far (p := ⟨gb602, 4, none⟩) (Kd.R_far (p := ⟨gb602, 3, none⟩) (Kd.R_far (p := ⟨gb602, 2, none⟩) (Kd.R_far (p := ⟨gb602, 1, none⟩) (Kd.R_far (p := ⟨gb602, 0, none⟩) (Kd.R_types HO605.out BK602.out (by decide)) (fun _ hk => hk.2) (.slice Ao10 t603.length co10)) (fun _ hk => hk.2) (.int .i64 t606)) (fun _ hk => hk.2) (.string t607)) (fun _ hk => hk.2) (.slice Ao9 t608.length co9)) (fun _ hk => hk.2) (.int .i64 a0_4)) (fun _ hk => trivial), by (with_reducible repeat (first | apply Kd.R_alloc | apply Kd.R_drewN | apply Kd.R_drew)); exact Kd.R_mono (Kd.R_far (p := ⟨gb602, 4, none⟩) (Kd.R_far (p := ⟨gb602, 3, none⟩) (Kd.R_far (p := ⟨gb602, 2, none⟩) (Kd.R_far (p := ⟨gb602, 1, none⟩) (Kd.R_far (p := ⟨gb602, 0, none⟩) (Kd.R_types HO610.out BK602.out (by decide)) (fun _ hk => hk.2) (.slice Ao10 t603.length co10)) (fun _ hk => hk.2) (.int .i64 t606)) (fun _ hk => hk.2) (.string t607)) (fun _ hk => hk.2) (.slice Ao9 t608.length co9)) (fun _ hk => hk.2) (.int .i64 a0_4)) (fun _ hk => trivial), bw_ HB⟩
end Go.Proofs.Ytjnnglphdaemaaa.Q
end

section
-- Written by a program of this session (wip/tools/pp.sh) over the print of the kit.
namespace Go.Proofs.Ytjnnglphdaemaaa.Q
open Go.RowKit Go.Proofs.YtjnnglphdaemaaaW.PrintWords Go.Proofs.YtjnnglphdaemaaaW.PrintLast Go.Proofs.YtjnnglphdaemaaaW.PrintMore
attribute [local go_sem] max2_int min2_int max_two min_two max_three min_three max_four min_four   -- for this text's walks alone
set_option linter.unusedVariables false
set_option linter.unusedSimpArgs false
def spec_l12Copy.f (l0_0 : List ByteArray) (a0_1 : Int) (a0_2 : ByteArray) (l0_3 : List Int) (a0_4 : Int) : Option (List ByteArray × Int × ByteArray × List Int × Int) := (spec_l11Copy.f l0_0 a0_1 a0_2).bind fun bt603 => ((some (([] : List Int) : List Int)).bind fun y608 => (if y608.length + l0_3.length < 140737488355328 then (some (bt603.1, bt603.2.1, bt603.2.2, (y608 ++ l0_3), a0_4)) else (none)))
def spec_l12Copy.T1 : Bool × List (List Nat × List Nat) := (true, [([], []), ([0], [0]), ([1], [1]), ([], []), ([], []), ([4], [4]), ([3, 5, 2], [3, 5]), ([], []), ([7], [7]), ([2, 6, 8], [2, 6, 8]), ([9, 6, 0, 1, 2, 3, 4, 5, 6, 7, 8, 9], [9])])
def spec_l12Copy.B1 : List Nat := [0, 1, 3, 0, 0, 16, 63, 0, 128, 511, 1023]
theorem spec_l12Copy.tab1 : rtab .any (opsOf Try.f87 1) = spec_l12Copy.T1 := by kernel_rfl
theorem spec_l12Copy.bits1 : waitsOk spec_l12Copy.T1.2 spec_l12Copy.B1 = true := by kernel_rfl
set_option maxHeartbeats 8000000 in
set_option maxRecDepth 100000 in
theorem spec_l12Copy.calls (A0_0 : Option Addr) (c0_0 : Nat) (l0_0 : List ByteArray) (a0_1 : Int) (a0_2 : ByteArray) (A0_3 : Option Addr) (c0_3 : Nat) (l0_3 : List Int) (a0_4 : Int) (r1 : List ByteArray) (r2 : Int) (r3 : ByteArray) (r4 : List Int) (r5 : Int) (w : World) (hr0_0 : Kd.C Kd.string w A0_0 l0_0.length l0_0) (hc0_0 : l0_0.length ≤ c0_0) (hr0_3 : Kd.C (Kd.int .u8) w A0_3 l0_3.length l0_3) (hc0_3 : l0_3.length ≤ c0_3) (h : spec_l12Copy.f l0_0 a0_1 a0_2 l0_3 a0_4 = some (r1, r2, r3, r4, r5)) :
  Calls Try.prog 87 #[.agg #[.slice A0_0 l0_0.length c0_0, .int .i64 a0_1, .string a0_2, .slice A0_3 l0_3.length c0_3, .int .i64 a0_4]] w fun e w' => ∃ v0_ v3_ : Value, e = .returned (.agg #[v0_, .int .i64 r2, .string r3, v3_, .int .i64 r5]) ∧ Kd.R Kd.string 9 w' w.heap.size (fun _ => True) v0_ r1 ∧ Kd.R (Kd.int .u8) 5 w' w.heap.size (fun _ => True) v3_ r4 ∧ Below w.heap.size w w' := by
 have hu37 := Try.underlying37
 have hu31 := Try.underlying31
 have HR0_0 := Aside0.mk hr0_0
 have HC0_0 := Aside0.mk hc0_0
 clear hr0_0 hc0_0
 have HR0_3 := Aside0.mk hr0_3
 have HC0_3 := Aside0.mk hc0_3
 clear hr0_3 hc0_3
 have HB := Aside0.mk (Below.refl w.heap.size w)
 have H : ((spec_l11Copy.f l0_0 a0_1 a0_2).bind fun bt603 => ((some (([] : List Int) : List Int)).bind fun y608 => (if y608.length + l0_3.length < 140737488355328 then (some (bt603.1, bt603.2.1, bt603.2.2, (y608 ++ l0_3), a0_4)) else (none)))) = some (r1, r2, r3, r4, r5) := h
 clear h
 replace H := bi_ H; obtain ⟨⟨t603, t606, t607⟩, A2, H⟩ := H
 dsimp only at H
 obtain ⟨y608, Ny608, H⟩ := sb_ (([] : List Int)) H
 replace H := ip_ H; obtain ⟨c3, H⟩ := H
 have LMc3 := Aside0.mk c3
 clear c3
 obtain ⟨y611, hy611⟩ : ∃ y_ : List Int, y_ = (y608 ++ l0_3) := ⟨_, rfl⟩
 replace H : (some (t603, t606, t607, y611, a0_4)) = some (r1, r2, r3, r4, r5) := yh_ hy611 H
 have Ny611 := Aside0.mk hy611
 clear hy611
 replace H := so5_ H; obtain ⟨rfl, rfl, rfl, rfl, rfl⟩ := H
 go_enter Try.func87, Try.ntmps87
 try go_wp2_with (first | ((with_reducible refine gd_ 1 ?_); refine bx_ 1 37 #[.slice A0_0 l0_0.length c0_0, .int .i64 a0_1, .string a0_2, .slice A0_3 l0_3.length c0_3, .int .i64 a0_4] ?_; intro gb601 hg w4 hbox hb; have BK601 := Aside0.mk hbox; have GW601 := gg_ hg HB; have GE601 := GW601; replace HB := ss_ HB hb; clear hb hbox hg) | ((with_reducible refine gd_ 2 ?_); refine bx_ 2 37 #[.slice none 0 0, .int .i64 0, .string (⟨#[]⟩ : ByteArray), .slice none 0 0, .int .i64 0] ?_; intro gb602 hg w5 hbox hb; have BK602 := Aside0.mk hbox; have GW602 := gg_ hg HB; have GE602 := GW602; replace HB := ss_ HB hb; have NB601_602 := nla_ hg BK601; have NB602_601 := nga_ hg BK601; replace BK601 := kl_ BK601 hb; clear hb hbox hg))
 replace BK601 := Aside0.mk (blk_drew BK601.out)
 replace BK602 := Aside0.mk (blk_drew BK602.out)
 replace HB := Aside0.mk (below_drew1 HB.out)
 refine start_ (n := 11) (S := fun w' => w'.cell? ⟨gb601, 0, none⟩ = some (.slice A0_0 l0_0.length c0_0) ∧ w'.cell? ⟨gb601, 1, none⟩ = some (.int .i64 a0_1) ∧ w'.cell? ⟨gb601, 2, none⟩ = some (.string a0_2) ∧ w'.cell? ⟨gb601, 3, none⟩ = some (.slice A0_3 l0_3.length c0_3) ∧ w'.cell? ⟨gb601, 4, none⟩ = some (.int .i64 a0_4)) (ds := []) (lz_ 11 0) (by kernel_rfl) rfl rfl ⟨bc0_ BK601.out, bc1_ BK601.out, bc2_ BK601.out, bc3_ BK601.out, bc4_ BK601.out⟩ (fun hHeld => ?_); refine with_tabW spec_l12Copy.tab1 spec_l12Copy.bits1 (fun HT_ HW_ => ?_)
 generalize w5.drew = w6 at BK601 BK602 HB hHeld ⊢
 refine pt_ 0 3 1 ?_
 refine pt_ 4 7 17 ?_
 refine pt_ 7 10 145 ?_
 refine tt_ 1 4 147 ?_
 refine tt_ 5 8 179 ?_
 refine tt_ 8 11 435 ?_
 refine join_ (σ := Value × Value) 3 (lz_ 11 447) (fun s_ => [(5, .agg #[s_.1, .int .i64 t606, .string t607]), (6, s_.2)]) (fun s_ w' => (w'.cell? ⟨gb601, 0, none⟩ = some (.slice A0_0 l0_0.length c0_0) ∧ w'.cell? ⟨gb601, 1, none⟩ = some (.int .i64 a0_1) ∧ w'.cell? ⟨gb601, 2, none⟩ = some (.string a0_2) ∧ w'.cell? ⟨gb601, 3, none⟩ = some (.slice A0_3 l0_3.length c0_3) ∧ w'.cell? ⟨gb601, 4, none⟩ = some (.int .i64 a0_4)) ∧ (Kd.R Kd.string 9 w' w.heap.size (fun _ => True) s_.1 t603) ∧ (Kd.R (Kd.int .u8) 5 w' w.heap.size (fun _ => True) s_.2 y608) ∧ (w'.heap[gb601]? = some (.cells #[.slice A0_0 l0_0.length c0_0, .int .i64 a0_1, .string a0_2, .slice A0_3 l0_3.length c0_3, .int .i64 a0_4] 37 (0, 0))) ∧ (w'.heap[gb602]? = some (.cells #[.slice none 0 0, .int .i64 0, .string (⟨#[]⟩ : ByteArray), .slice none 0 0, .int .i64 0] 37 (0, 0))) ∧ (Below w.heap.size w w')) ?_ ?_
 rotate_left
 ·intro hCont
  refine two_ (i := 2) (j := 3) (Ni := some 5) (Nj := some 6) (lz_ 11 439) (lz_ 11 443) rfl rfl rfl rfl (two_of HT_.out (by kernel_rfl)) (by decide) (by decide) (fun K hK => ?_) (fun K hK => ?_)
  ·skip
   refine gf_ Try.func76 (spec_l11Copy.calls _ _ l0_0 a0_1 a0_2 t603 t606 t607 _ (cb_ HR0_0 HB) HC0_0.out A2.out) ?_
   rintro e w7 ⟨v604, rfl, ho0, hb⟩
   refine ⟨_, rfl, ?_⟩
   have HO605 := Aside0.mk (Kd.R_lower ho0 (sz_ HB))
   replace BK601 := kl_ BK601 hb
   replace BK602 := kl_ BK602 hb
   replace HB := ss_ HB hb
   clear hb ho0
   refine hK.out _ _ ⟨bc0_ BK601.out, bc1_ BK601.out, bc2_ BK601.out, bc3_ BK601.out, bc4_ BK601.out⟩ (fun hHeld => ?_)
   clear hK K
   refine no_ 5 ?_
   refine one_ (i := 3) (N := some 6) (lz_ 11 447) rfl rfl (one_of HT_.out (by kernel_rfl)) (by decide) (fun K hK => ?_)
   refine Kd.R_lit_step (Kd.int .u8) _ 5 ?hg (N := 6) ?hd (xs := ([] : List Int)) (inner := []) (ok := fun _ => True) (okp := fun _ => True) ?hr ?hp (fun _ hk => hk) trivial (Below.refl _ _) (Nat.le_refl _) (by simp) ?_; (case hd => rfl); (case hg => rfl); (case hr => first | (go_simp; done) | (go_simp; rfl)); (case hp => exact (Reps.none _ _))
   intro v609 w8 ho9 hb hg_ hnew_
   clear hg_ hnew_
   (first | rw [← Ny608.out] at ho9 | (simp only [Int.reduceToNat] at ho9; rw [← Ny608.out] at ho9))
   replace HO605 := rb_ HO605 hb
   have HO610 := Aside0.mk (Kd.R_lower ho9 (sz_ HB))
   replace BK601 := kl_ BK601 hb
   replace BK602 := kl_ BK602 hb
   replace HB := ss_ HB hb
   clear hb ho9
   refine hK.out _ _ ⟨bc0_ BK601.out, bc1_ BK601.out, bc2_ BK601.out, bc3_ BK601.out, bc4_ BK601.out⟩ (fun hHeld => ?_)
   clear hK K
   refine no_ 6 ?_
   exact norm_ (by simp only [putAll, Act.put, List.setIfInBounds_toArray, List.set_cons_zero, List.set_cons_succ]) (hCont (v604, v609) _ ⟨hHeld, (kr_ HO605.out), (kr_ HO610.out), (kb_ BK601.out), (kb_ BK602.out), (bw_ HB)⟩)
  ·skip
   refine Kd.R_lit_step (Kd.int .u8) _ 5 ?hg (N := 6) ?hd (xs := ([] : List Int)) (inner := []) (ok := fun _ => True) (okp := fun _ => True) ?hr ?hp (fun _ hk => hk) trivial (Below.refl _ _) (Nat.le_refl _) (by simp) ?_; (case hd => rfl); (case hg => rfl); (case hr => first | (go_simp; done) | (go_simp; rfl)); (case hp => exact (Reps.none _ _))
   intro v609 w7 ho8 hb hg_ hnew_
   clear hg_ hnew_
   (first | rw [← Ny608.out] at ho8 | (simp only [Int.reduceToNat] at ho8; rw [← Ny608.out] at ho8))
   have HO610 := Aside0.mk (Kd.R_lower ho8 (sz_ HB))
   replace BK601 := kl_ BK601 hb
   replace BK602 := kl_ BK602 hb
   replace HB := ss_ HB hb
   clear hb ho8
   refine hK.out _ _ ⟨bc0_ BK601.out, bc1_ BK601.out, bc2_ BK601.out, bc3_ BK601.out, bc4_ BK601.out⟩ (fun hHeld => ?_)
   clear hK K
   refine no_ 6 ?_
   refine one_ (i := 2) (N := some 5) (lz_ 11 447) rfl rfl (one_of HT_.out (by kernel_rfl)) (by decide) (fun K hK => ?_)
   refine gf_ Try.func76 (spec_l11Copy.calls _ _ l0_0 a0_1 a0_2 t603 t606 t607 _ (cb_ HR0_0 HB) HC0_0.out A2.out) ?_
   rintro e w9 ⟨v604, rfl, ho0, hb⟩
   refine ⟨_, rfl, ?_⟩
   replace HO610 := rb_ HO610 hb
   have HO605 := Aside0.mk (Kd.R_lower ho0 (sz_ HB))
   replace BK601 := kl_ BK601 hb
   replace BK602 := kl_ BK602 hb
   replace HB := ss_ HB hb
   clear hb ho0
   refine hK.out _ _ ⟨bc0_ BK601.out, bc1_ BK601.out, bc2_ BK601.out, bc3_ BK601.out, bc4_ BK601.out⟩ (fun hHeld => ?_)
   clear hK K
   refine no_ 5 ?_
   exact norm_ (by simp only [putAll, Act.put, List.setIfInBounds_toArray, List.set_cons_zero, List.set_cons_succ]) (hCont (v604, v609) _ ⟨hHeld, (kr_ HO605.out), (kr_ HO610.out), (kb_ BK601.out), (kb_ BK602.out), (bw_ HB)⟩)
 rintro ⟨v604, v609⟩ w10 ⟨hS_, h0_, h1_, h2_, h3_, h4_⟩
 have n0_ : Aside0 (Kd.R Kd.string 9 w10 w.heap.size (fun _ => True) v604 t603) := ⟨h0_⟩
 have n1_ : Aside0 (Kd.R (Kd.int .u8) 5 w10 w.heap.size (fun _ => True) v609 y608) := ⟨h1_⟩
 have n2_ : Aside0 (w10.heap[gb601]? = some (.cells #[.slice A0_0 l0_0.length c0_0, .int .i64 a0_1, .string a0_2, .slice A0_3 l0_3.length c0_3, .int .i64 a0_4] 37 (0, 0))) := ⟨h2_⟩
 have n3_ : Aside0 (w10.heap[gb602]? = some (.cells #[.slice none 0 0, .int .i64 0, .string (⟨#[]⟩ : ByteArray), .slice none 0 0, .int .i64 0] 37 (0, 0))) := ⟨h3_⟩
 have n4_ : Aside0 (Below w.heap.size w w10) := ⟨h4_⟩
 clear BK601
 clear BK602
 clear HB
 clear h0_ h1_ h2_ h3_ h4_
 have HO605 := n0_
 have HO610 := n1_
 have BK601 := n2_
 have BK602 := n3_
 have HB := n4_
 clear n0_ n1_ n2_ n3_ n4_
 have hHeld : w10.cell? ⟨gb601, 0, none⟩ = some (.slice A0_0 l0_0.length c0_0) ∧ w10.cell? ⟨gb601, 1, none⟩ = some (.int .i64 a0_1) ∧ w10.cell? ⟨gb601, 2, none⟩ = some (.string a0_2) ∧ w10.cell? ⟨gb601, 3, none⟩ = some (.slice A0_3 l0_3.length c0_3) ∧ w10.cell? ⟨gb601, 4, none⟩ = some (.int .i64 a0_4) := hS_
 refine nj_ ?_
 refine one_ (i := 6) (N := some 9) (lz_ 11 511) rfl rfl (one_of HT_.out (by kernel_rfl)) (by decide) (fun K hK => ?_)
 refine Kd.R_append_rows_step (Kd.int .u8) (w0 := w) w.heap.size (by rfl) (.tmp 6) (.tmp 8) 22 5 (.int .u8 0) 1 rfl Try.underlying22 info5 rfl (by decide) (by omega) v609 y608 l0_3 _ _ _ (fun _ => True) (fun _ => False) rfl rfl ?aO ?aR (fun _ _ h => h) (fun _ h => h.elim) ?aF ?aB ?aS ?aL ?_
 (case aR => exact cb_ HR0_3 HB)
 (case aB => exact (bw_ HB))
 (case aF => exact (fun _ _ => trivial))
 (case aO => exact (kr_ HO610.out))
 (case aS => exact (sz_ HB))
 (case aL => have := LMc3.out; omega)
 intro v612 w11 ho hb hg hat
 rw [← Ny611.out] at ho
 replace BK601 := kg_ BK601 HO610 hg
 replace BK602 := kg_ BK602 HO610 hg
 replace HO605 := Aside0.mk (Kd.R_over' (kr_ HO605.out) (Kd.R_typed (kr_ HO610.out)) (by decide) hg)
 replace HB := Aside0.mk hb
 have HO613 := Aside0.mk ho
 clear HO610
 clear ho hb hg hat
 obtain ⟨Ao12, co12, eo12⟩ := Kd.R_slice HO613.out
 (first | subst eo12 | (injection eo12 with f1_ f2_ f3_; have f4_ := f1_.symm; have f5_ := f3_.symm; clear f1_ f2_ f3_; subst f4_; subst f5_))
 obtain ⟨Ao13, co13, eo13⟩ := Kd.R_slice HO605.out
 (first | subst eo13 | (injection eo13 with f1_ f2_ f3_; have f4_ := f1_.symm; have f5_ := f3_.symm; clear f1_ f2_ f3_; subst f4_; subst f5_))
 refine hK.out _ _ ⟨bc0_ BK601.out, bc1_ BK601.out, bc2_ BK601.out, bc3_ BK601.out, bc4_ BK601.out⟩ (fun hHeld => ?_)
 clear hK K
 refine no_ 9 ?_
 refine pt_ 9 12 1023 ?_
 refine one_ (i := 10) (N := none) (lz_ 11 2047) rfl rfl (one_of HT_.out (by kernel_rfl)) (by decide) (fun K hK => ?_)
 have hs14 := bc0_ BK602.out
 have hfs14 := blk_frozen BK602.out 0
 have hns14_0 := NB601_602.out
 have hms14_0 := NB602_601.out
 have hs15 := bc1_ BK602.out
 have hfs15 := blk_frozen BK602.out 1
 have hns15_0 := NB601_602.out
 have hms15_0 := NB602_601.out
 have hs16 := bc2_ BK602.out
 have hfs16 := blk_frozen BK602.out 2
 have hns16_0 := NB601_602.out
 have hms16_0 := NB602_601.out
 have hs17 := bc3_ BK602.out
 have hfs17 := blk_frozen BK602.out 3
 have hns17_0 := NB601_602.out
 have hms17_0 := NB602_601.out
 have hs18 := bc4_ BK602.out
 have hfs18 := blk_frozen BK602.out 4
 have hns18_0 := NB601_602.out
 have hms18_0 := NB602_601.out
 refine skip_ (w1 := ?_) (by rfl) rfl ?_ ?_
 rotate_left
 ·go_simp
  rfl
 refine hK.out _ _ ⟨((cell_far (p := ⟨gb602, _, none⟩) NB601_602.out _).trans (((cell_far (p := ⟨gb602, _, none⟩) NB601_602.out _).trans (((cell_far (p := ⟨gb602, _, none⟩) NB601_602.out _).trans (((cell_far (p := ⟨gb602, _, none⟩) NB601_602.out _).trans (((cell_far (p := ⟨gb602, _, none⟩) NB601_602.out _).trans (hHeld.1)))))))))), ((cell_far (p := ⟨gb602, _, none⟩) NB601_602.out _).trans (((cell_far (p := ⟨gb602, _, none⟩) NB601_602.out _).trans (((cell_far (p := ⟨gb602, _, none⟩) NB601_602.out _).trans (((cell_far (p := ⟨gb602, _, none⟩) NB601_602.out _).trans (((cell_far (p := ⟨gb602, _, none⟩) NB601_602.out _).trans (hHeld.2.1)))))))))), ((cell_far (p := ⟨gb602, _, none⟩) NB601_602.out _).trans (((cell_far (p := ⟨gb602, _, none⟩) NB601_602.out _).trans (((cell_far (p := ⟨gb602, _, none⟩) NB601_602.out _).trans (((cell_far (p := ⟨gb602, _, none⟩) NB601_602.out _).trans (((cell_far (p := ⟨gb602, _, none⟩) NB601_602.out _).trans (hHeld.2.2.1)))))))))), ((cell_far (p := ⟨gb602, _, none⟩) NB601_602.out _).trans (((cell_far (p := ⟨gb602, _, none⟩) NB601_602.out _).trans (((cell_far (p := ⟨gb602, _, none⟩) NB601_602.out _).trans (((cell_far (p := ⟨gb602, _, none⟩) NB601_602.out _).trans (((cell_far (p := ⟨gb602, _, none⟩) NB601_602.out _).trans (hHeld.2.2.2.1)))))))))), ((cell_far (p := ⟨gb602, _, none⟩) NB601_602.out _).trans (((cell_far (p := ⟨gb602, _, none⟩) NB601_602.out _).trans (((cell_far (p := ⟨gb602, _, none⟩) NB601_602.out _).trans (((cell_far (p := ⟨gb602, _, none⟩) NB601_602.out _).trans (((cell_far (p := ⟨gb602, _, none⟩) NB601_602.out _).trans (hHeld.2.2.2.2))))))))))⟩ (fun hHeld => ?_)
 clear hK K
 refine done_ (done_of HT_.out (by kernel_rfl)) ?_
 try go_wp2
 refine bodyPost_ret (results_cell_row rfl _ _ gb602 37 #[.slice Ao13 t603.length co13, .int .i64 t606, .string t607, .slice Ao12 y611.length co12, .int .i64 a0_4] (0, 0) _ rfl (by exact kq_ BK602) Try.underlying37 rfl (by kernel_rfl)) rfl ?_
 exact ⟨_, _, e2_, by (with_reducible repeat (first | apply Kd.R_alloc | apply Kd.R_drewN | apply Kd.R_drew)); exact Kd.R_mono (Kd.R_far (p := ⟨gb602, 4, none⟩) (Kd.R_far (p := ⟨gb602, 3, none⟩) (Kd.R_far (p := ⟨gb602, 2, none⟩) (Kd.R_far (p := ⟨gb602, 1, none⟩) (Kd.R_far (p := ⟨gb602, 0, none⟩) (Kd.R_types HO605.out BK602.out (by decide)) (fun _ hk => hk.2) (.slice Ao13 t603.length co13)) (fun _ hk => hk.2) (.int .i64 t606)) (fun _ hk => hk.2) (.string t607)) (fun _ hk => hk.2) (.slice Ao12 y611.length co12)) (fun _ hk => hk.2) (.int .i64 a0_4)) (fun _ hk => trivial), by (with_reducible repeat (first | apply Kd.R_alloc | apply Kd.R_drewN | apply Kd.R_drew)); exact Kd.R_mono (Kd.R_far (p := ⟨gb602, 4, none⟩) (Kd.R_far (p := ⟨gb602, 3, none⟩) (Kd.R_far (p := ⟨gb602, 2, none⟩) (Kd.R_far (p := ⟨gb602, 1, none⟩) (Kd.R_far (p := ⟨gb602, 0, none⟩) (Kd.R_types HO613.out BK602.out (by decide)) (fun _ hk => hk.2) (.slice Ao13 t603.length co13)) (fun _ hk => hk.2) (.int .i64 t606)) (fun _ hk => hk.2) (.string t607)) (fun _ hk => hk.2) (.slice Ao12 y611.length co12)) (fun _ hk => hk.2) (.int .i64 a0_4)) (fun _ hk => trivial), bw_ HB⟩
end Go.Proofs.Ytjnnglphdaemaaa.Q
end

section
/- What copies of logs and stores return, the program's and the reference's. -/
namespace Go.Proofs.Ytjnnglphdaemaaa.Q
open Go.RowKit Go.Proofs.Ytjnnglphdaemaaa.B Go.Proofs.YtjnnglphdaemaaaW.PrintWords
theorem impl_copyStore_eq (l : List ByteArray) (n : Int) (s : ByteArray) (b : List Int) (u : Int) (hl : l.length < 8796093022208) (hb : b.length < 140737488355328) : impl_copyStore.f l n s b u = some (l, n, s, b, u) := by
 unfold impl_copyStore.f slices_Clone_byte_byte.f
 rw [impl_copyLog_eq l n s hl, if_pos (show b.length ≤ 140737488355328 by omega)]
 rfl
theorem spec_l12Copy_eq (l : List ByteArray) (n : Int) (s : ByteArray) (b : List Int) (u : Int) (hl : l.length < 8796093022208) (hb : b.length < 140737488355328) : spec_l12Copy.f l n s b u = some (l, n, s, b, u) := by
 unfold spec_l12Copy.f
 rw [spec_l11Copy_eq l n s hl]
 simp only [Option.bind_some, List.length_nil, List.nil_append]
 rw [if_pos (by omega)]
end Go.Proofs.Ytjnnglphdaemaaa.Q
end

section
-- Written by a program of this session (wip/tools/pp.sh) over the print of the kit.
namespace Go.Proofs.Ytjnnglphdaemaaa.Q
open Go.RowKit Go.Proofs.YtjnnglphdaemaaaW.PrintWords Go.Proofs.YtjnnglphdaemaaaW.PrintLast Go.Proofs.YtjnnglphdaemaaaW.PrintMore
attribute [local go_sem] max2_int min2_int max_two min_two max_three min_three max_four min_four   -- for this text's walks alone
set_option linter.unusedVariables false
set_option linter.unusedSimpArgs false
def impl_LogNew.f (k : Nat)  : Option (List ByteArray × Int × ByteArray) := (impl_HeadOf.f k ([] : List ByteArray)).bind fun bt602 => (some (([] : List ByteArray), bt602.1, bt602.2))
set_option maxHeartbeats 8000000 in
set_option maxRecDepth 100000 in
theorem impl_LogNew.calls (k : Nat)  (r1 : List ByteArray) (r2 : Int) (r3 : ByteArray) (w : World) (h : impl_LogNew.f k  = some (r1, r2, r3)) :
  Calls Try.prog 14 #[] w fun e w' => ∃ v0_ : Value, e = .returned (.agg #[v0_, .int .i64 r2, .string r3]) ∧ Kd.R Kd.string 9 w' w.heap.size (fun _ => True) v0_ r1 ∧ Below w.heap.size w w' := by
 have hu31 := Try.underlying31
 have HB := Aside0.mk (Below.refl w.heap.size w)
 have H : ((impl_HeadOf.f k ([] : List ByteArray)).bind fun bt602 => (some (([] : List ByteArray), bt602.1, bt602.2))) = some (r1, r2, r3) := h
 clear h
 replace H := bi_ H; obtain ⟨⟨t602, t603⟩, A1, H⟩ := H
 dsimp only at H
 replace H := so3_ H; obtain ⟨rfl, rfl, rfl⟩ := H
 go_enter Try.func14, Try.ntmps14
 go_wp2_with (first | ((with_reducible refine gd_ 0 ?_); refine bx_ 0 31 #[.slice none 0 0, .int .i64 0, .string (⟨#[]⟩ : ByteArray)] ?_; intro gb601 hg w2 hbox hb; have BK601 := Aside0.mk hbox; have GW601 := gg_ hg HB; have GE601 := GW601; replace HB := ss_ HB hb; clear hb hbox hg) | ((with_reducible refine gk_ 12 ?_); refine gl_ 1 Try.func12 #[.slice none 0 0] ?_; (refine (impl_HeadOf.calls k _ _ ([] : List ByteArray) t602 t603 _ ?side1 ?side2 A1.out).mono ?_); (case side1 => exact Kd.C_nil _ _); (case side2 => exact Nat.le_refl _); rintro e w3 ⟨rfl, hb⟩; refine ⟨_, rfl, ?_⟩; replace BK601 := kl_ BK601 hb; replace HB := ss_ HB hb; clear hb; have hz4 := cz3_ BK601))
 refine bodyPost_ret (results_cell_row rfl _ _ gb601 31 #[.slice none 0 0, .int .i64 t602, .string t603] (0, 0) _ rfl (by exact kq_ BK601) Try.underlying31 rfl (by kernel_rfl)) rfl ?_
 exact ⟨_, e2_, by first | exact Kd.R_nil _ _ _ _ _ | exact Kd.N_nil _ _ _ _ _ | exact Kd.V_nil _ _ _ _ _ | exact Kd.Q_nil _ _ _ _ _ | exact Kd.S_nil _ _ _ _ _, bw_ HB⟩
end Go.Proofs.Ytjnnglphdaemaaa.Q
end

section
/- A new log: the program's and the reference's are one. Plain. -/
namespace Go.Proofs.Ytjnnglphdaemaaa.Q
open Go.RowKit Go.Proofs.Ytjnnglphdaemaaa.B Go.Proofs.YtjnnglphdaemaaaW.PrintWords Go.Proofs.YtjnnglphdaemaaaW.PrintMore
set_option linter.unusedVariables false
theorem spec_LogNew_ev : Ev (fun k => spec_LogNew.f k) (([] : List ByteArray), (headOf []).1, (headOf []).2) := by
 unfold spec_LogNew.f
 exact Ev.bind (spec_HeadOf_ev [] (by simp)) (Ev.now _)
theorem impl_LogNew_ev : Ev (fun k => impl_LogNew.f k) (([] : List ByteArray), (headOf []).1, (headOf []).2) := by
 unfold impl_LogNew.f
 exact Ev.bind (impl_HeadOf_ev [] (by simp)) (Ev.now _)
end Go.Proofs.Ytjnnglphdaemaaa.Q
end

section
-- Written by a program of this session (wip/tools/pp.sh) over the print of the kit.
namespace Go.Proofs.Ytjnnglphdaemaaa.Q
open Go.RowKit Go.Proofs.YtjnnglphdaemaaaW.PrintWords Go.Proofs.YtjnnglphdaemaaaW.PrintLast Go.Proofs.YtjnnglphdaemaaaW.PrintMore
attribute [local go_sem] max2_int min2_int max_two min_two max_three min_three max_four min_four   -- for this text's walks alone
set_option linter.unusedVariables false
set_option linter.unusedSimpArgs false
def impl_StoreNew.f (k : Nat)  : Option (List ByteArray × Int × ByteArray × List Int × Int) := (impl_LogNew.f k).bind fun bt602 => (some (bt602.1, bt602.2.1, bt602.2.2, ([] : List Int), 0))
set_option maxHeartbeats 8000000 in
set_option maxRecDepth 100000 in
theorem impl_StoreNew.calls (k : Nat)  (r1 : List ByteArray) (r2 : Int) (r3 : ByteArray) (r4 : List Int) (r5 : Int) (w : World) (h : impl_StoreNew.f k  = some (r1, r2, r3, r4, r5)) :
  Calls Try.prog 16 #[] w fun e w' => ∃ v0_ v3_ : Value, e = .returned (.agg #[v0_, .int .i64 r2, .string r3, v3_, .int .i64 r5]) ∧ Kd.R Kd.string 9 w' w.heap.size (fun _ => True) v0_ r1 ∧ Kd.R (Kd.int .u8) 5 w' w.heap.size (fun _ => True) v3_ r4 ∧ Below w.heap.size w w' := by
 have hu37 := Try.underlying37
 have HB := Aside0.mk (Below.refl w.heap.size w)
 have H : ((impl_LogNew.f k).bind fun bt602 => (some (bt602.1, bt602.2.1, bt602.2.2, ([] : List Int), 0))) = some (r1, r2, r3, r4, r5) := h
 clear h
 replace H := bi_ H; obtain ⟨⟨t602, t605, t606⟩, A1, H⟩ := H
 dsimp only at H
 replace H := so5_ H; obtain ⟨rfl, rfl, rfl, rfl, rfl⟩ := H
 go_enter Try.func16, Try.ntmps16
 go_wp2_with (first | ((with_reducible refine gd_ 0 ?_); refine bx_ 0 37 #[.slice none 0 0, .int .i64 0, .string (⟨#[]⟩ : ByteArray), .slice none 0 0, .int .i64 0] ?_; intro gb601 hg w2 hbox hb; have BK601 := Aside0.mk hbox; have GW601 := gg_ hg HB; have GE601 := GW601; replace HB := ss_ HB hb; clear hb hbox hg) | ((with_reducible refine gq_ 14 1 ?_); refine gc_ 1 Try.func14 (impl_LogNew.calls k  t602 t605 t606 _ A1.out) ?_; rintro e w3 ⟨v603, rfl, ho0, hb⟩; refine ⟨_, rfl, ?_⟩; have HO604 := Aside0.mk (Kd.R_lower ho0 (sz_ HB)); replace BK601 := kl_ BK601 hb; replace HB := ss_ HB hb; clear hb ho0; obtain ⟨Ao4, co4, eo4⟩ := Kd.R_slice HO604.out; subst eo4; have hz5 := cz5_ BK601))
 refine bodyPost_ret (results_cell_row rfl _ _ gb601 37 #[.slice Ao4 t602.length co4, .int .i64 t605, .string t606, .slice none 0 0, .int .i64 0] (0, 0) _ rfl (by exact kq_ BK601) Try.underlying37 rfl (by kernel_rfl)) rfl ?_
 exact ⟨_, _, e2_, by (with_reducible repeat (first | apply Kd.R_alloc | apply Kd.R_drewN | apply Kd.R_drew)); exact Kd.R_mono (Kd.R_far (p := ⟨gb601, 4, none⟩) (Kd.R_far (p := ⟨gb601, 3, none⟩) (Kd.R_far (p := ⟨gb601, 2, none⟩) (Kd.R_far (p := ⟨gb601, 1, none⟩) (Kd.R_far (p := ⟨gb601, 0, none⟩) (Kd.R_types HO604.out BK601.out (by decide)) (fun _ hk => hk.2) (.slice Ao4 t602.length co4)) (fun _ hk => hk.2) (.int .i64 t605)) (fun _ hk => hk.2) (.string t606)) (fun _ hk => hk.2) (.slice none 0 0)) (fun _ hk => hk.2) (.int .i64 0)) (fun _ hk => trivial), by first | exact Kd.R_nil _ _ _ _ _ | exact Kd.N_nil _ _ _ _ _ | exact Kd.V_nil _ _ _ _ _ | exact Kd.Q_nil _ _ _ _ _ | exact Kd.S_nil _ _ _ _ _, bw_ HB⟩
end Go.Proofs.Ytjnnglphdaemaaa.Q
end

section
-- Written by a program of this session (wip/tools/pp.sh) over the print of the kit.
namespace Go.Proofs.Ytjnnglphdaemaaa.Q
open Go.RowKit Go.Proofs.YtjnnglphdaemaaaW.PrintWords Go.Proofs.YtjnnglphdaemaaaW.PrintLast Go.Proofs.YtjnnglphdaemaaaW.PrintMore
attribute [local go_sem] max2_int min2_int max_two min_two max_three min_three max_four min_four   -- for this text's walks alone
set_option linter.unusedVariables false
set_option linter.unusedSimpArgs false
def spec_StoreNew.f (k : Nat)  : Option (List ByteArray × Int × ByteArray × List Int × Int) := (spec_LogNew.f k).bind fun bt602 => (some (bt602.1, bt602.2.1, bt602.2.2, ([] : List Int), 0))
set_option maxHeartbeats 8000000 in
set_option maxRecDepth 100000 in
theorem spec_StoreNew.calls (k : Nat)  (r1 : List ByteArray) (r2 : Int) (r3 : ByteArray) (r4 : List Int) (r5 : Int) (w : World) (h : spec_StoreNew.f k  = some (r1, r2, r3, r4, r5)) :
  Calls Try.prog 95 #[] w fun e w' => ∃ v0_ v3_ : Value, e = .returned (.agg #[v0_, .int .i64 r2, .string r3, v3_, .int .i64 r5]) ∧ Kd.R Kd.string 9 w' w.heap.size (fun _ => True) v0_ r1 ∧ Kd.R (Kd.int .u8) 5 w' w.heap.size (fun _ => True) v3_ r4 ∧ Below w.heap.size w w' := by
 have hu37 := Try.underlying37
 have HB := Aside0.mk (Below.refl w.heap.size w)
 have H : ((spec_LogNew.f k).bind fun bt602 => (some (bt602.1, bt602.2.1, bt602.2.2, ([] : List Int), 0))) = some (r1, r2, r3, r4, r5) := h
 clear h
 replace H := bi_ H; obtain ⟨⟨t602, t605, t606⟩, A1, H⟩ := H
 dsimp only at H
 replace H := so5_ H; obtain ⟨rfl, rfl, rfl, rfl, rfl⟩ := H
 go_enter Try.func95, Try.ntmps95
 go_wp2_with (first | ((with_reducible refine gd_ 0 ?_); refine bx_ 0 37 #[.slice none 0 0, .int .i64 0, .string (⟨#[]⟩ : ByteArray), .slice none 0 0, .int .i64 0] ?_; intro gb601 hg w2 hbox hb; have BK601 := Aside0.mk hbox; have GW601 := gg_ hg HB; have GE601 := GW601; replace HB := ss_ HB hb; clear hb hbox hg) | ((with_reducible refine gq_ 118 1 ?_); refine gc_ 1 Try.func118 (spec_LogNew.calls k  t602 t605 t606 _ A1.out) ?_; rintro e w3 ⟨v603, rfl, ho0, hb⟩; refine ⟨_, rfl, ?_⟩; have HO604 := Aside0.mk (Kd.R_lower ho0 (sz_ HB)); replace BK601 := kl_ BK601 hb; replace HB := ss_ HB hb; clear hb ho0; obtain ⟨Ao4, co4, eo4⟩ := Kd.R_slice HO604.out; subst eo4; have hz5 := cz5_ BK601))
 refine bodyPost_ret (results_cell_row rfl _ _ gb601 37 #[.slice Ao4 t602.length co4, .int .i64 t605, .string t606, .slice none 0 0, .int .i64 0] (0, 0) _ rfl (by exact kq_ BK601) Try.underlying37 rfl (by kernel_rfl)) rfl ?_
 exact ⟨_, _, e2_, by (with_reducible repeat (first | apply Kd.R_alloc | apply Kd.R_drewN | apply Kd.R_drew)); exact Kd.R_mono (Kd.R_far (p := ⟨gb601, 4, none⟩) (Kd.R_far (p := ⟨gb601, 3, none⟩) (Kd.R_far (p := ⟨gb601, 2, none⟩) (Kd.R_far (p := ⟨gb601, 1, none⟩) (Kd.R_far (p := ⟨gb601, 0, none⟩) (Kd.R_types HO604.out BK601.out (by decide)) (fun _ hk => hk.2) (.slice Ao4 t602.length co4)) (fun _ hk => hk.2) (.int .i64 t605)) (fun _ hk => hk.2) (.string t606)) (fun _ hk => hk.2) (.slice none 0 0)) (fun _ hk => hk.2) (.int .i64 0)) (fun _ hk => trivial), by first | exact Kd.R_nil _ _ _ _ _ | exact Kd.N_nil _ _ _ _ _ | exact Kd.V_nil _ _ _ _ _ | exact Kd.Q_nil _ _ _ _ _ | exact Kd.S_nil _ _ _ _ _, bw_ HB⟩
end Go.Proofs.Ytjnnglphdaemaaa.Q
end

section
/- A new store: the program's and the reference's are one. Plain. -/
namespace Go.Proofs.Ytjnnglphdaemaaa.Q
open Go.RowKit Go.Proofs.Ytjnnglphdaemaaa.B Go.Proofs.YtjnnglphdaemaaaW.PrintWords Go.Proofs.YtjnnglphdaemaaaW.PrintMore
set_option linter.unusedVariables false
theorem spec_StoreNew_ev : Ev (fun k => spec_StoreNew.f k) (([] : List ByteArray), (headOf []).1, (headOf []).2, ([] : List Int), (0 : Int)) := by
 unfold spec_StoreNew.f
 exact Ev.bind spec_LogNew_ev (Ev.now _)
theorem impl_StoreNew_ev : Ev (fun k => impl_StoreNew.f k) (([] : List ByteArray), (headOf []).1, (headOf []).2, ([] : List Int), (0 : Int)) := by
 unfold impl_StoreNew.f
 exact Ev.bind impl_LogNew_ev (Ev.now _)
end Go.Proofs.Ytjnnglphdaemaaa.Q
end

section
/- (*Store).commit, in place: what it makes of a store's block and its rows. -/
namespace Go.Proofs.Ytjnnglphdaemaaa.Q
open Go.RowKit Go.Proofs.YtjnnglphdaemaaaW.PrintWords Go.Proofs.YtjnnglphdaemaaaW.PrintLast Go.Proofs.YtjnnglphdaemaaaW.PrintMore
set_option linter.unusedVariables false
set_option linter.unusedSimpArgs false
def impl_Store_commit.f (k : Nat) (l : List ByteArray) (n : Int) (s : ByteArray) (b : List Int) (u : Int) (t : List S28) (a : Int) (z : ByteArray) (x : List ByteArray) : Option (List ByteArray × Int × ByteArray × List Int × Int) :=
 (impl_PutCommit.f k a z x).bind fun m => (if wrap64 ((b.length : Int) + (m.length : Int)) > 60000 then some (l, n, s, b, 1) else ((impl_extend.f k l n s t a z x).bind fun r => (if r.2.2.2 = 0 then (if b.length + m.length < 140737488355328 then some (r.1, r.2.1, r.2.2.1, b ++ m, 0) else none) else some (l, n, s, b, r.2.2.2))))
theorem Kd.R_gone {α : Type} {d : Kd α} {e base g : Nat} {W : World} {v : Value} {xs : List α} (h : d.R e W base (fun k => k ≠ g) v xs) (i : Nat) (y : Value) : d.R e (W.setCell ⟨g, i, none⟩ y) base (fun k => k ≠ g) v xs := Kd.R_far h (fun _ hk => hk) y
set_option maxHeartbeats 8000000 in
set_option maxRecDepth 100000 in
theorem impl_Store_commit.calls (k g : Nat) (A0 : Option Addr) (c0 : Nat) (l : List ByteArray) (n : Int) (s : ByteArray) (A3 : Option Addr) (c3 : Nat) (b : List Int) (u : Int) (A1 : Option Addr) (c1 : Nat) (t : List S28) (a : Int) (z : ByteArray) (A4 : Option Addr) (c4 : Nat) (x : List ByteArray) (r1 : List ByteArray) (r2 : Int) (r3 : ByteArray) (r4 : List Int) (r5 : Int) (w0 w : World)
  (hg : w0.heap.size ≤ g) (hbk : w.heap[g]? = some (.cells #[.slice A0 l.length c0, .int .i64 n, .string s, .slice A3 b.length c3, .int .i64 u] 37 (0, 0)))
  (hO : Kd.R Kd.string 9 w w0.heap.size (fun k_ => k_ ≠ g) (.slice A0 l.length c0) l) (hP : Kd.R (Kd.int .u8) 5 w w0.heap.size (fun k_ => k_ ≠ g) (.slice A3 b.length c3) b)
  (hT : Kd.C k28 w A1 t.length t) (hT1 : t.length ≤ c1) (hX : Kd.C Kd.string w A4 x.length x) (hX1 : x.length ≤ c4) (hB : Below w0.heap.size w0 w) (h : impl_Store_commit.f k l n s b u t a z x = some (r1, r2, r3, r4, r5)) :
  Calls Try.prog 66 #[.pointer (some ⟨g, 0, none⟩), .slice A1 t.length c1, .agg #[.int .i64 a, .string z], .slice A4 x.length c4] w fun e w' => e = .returned (.int .i64 r5) ∧ ∃ (A0' : Option Addr) (c0' : Nat) (A3' : Option Addr) (c3' : Nat), Kd.R Kd.string 9 w' w0.heap.size (fun k_ => k_ ≠ g) (.slice A0' r1.length c0') r1 ∧ Kd.R (Kd.int .u8) 5 w' w0.heap.size (fun k_ => k_ ≠ g) (.slice A3' r4.length c3') r4 ∧ w'.heap[g]? = some (.cells #[.slice A0' r1.length c0', .int .i64 r2, .string r3, .slice A3' r4.length c3', .int .i64 u] 37 (0, 0)) ∧ Below w0.heap.size w0 w' ∧ Kept w w' (fun k_ => k_ = g ∨ some k_ = (Value.slice A3 b.length c3).ownBlock) := by
 have hu37 := Try.underlying37
 have hu31 := Try.underlying31
 have hu28 := Try.underlying28
 have HB := Aside0.mk hB
 have GE := Aside0.mk hg
 have BK := Aside0.mk hbk
 have HO := Aside0.mk hO
 have HP := Aside0.mk hP
 have HT := Aside0.mk hT
 have HT1 := Aside0.mk hT1
 have HX := Aside0.mk hX
 have HX1 := Aside0.mk hX1
 have HKP := Aside0.mk (Kept.refl w (fun k_ => k_ = g ∨ some k_ = (Value.slice A3 b.length c3).ownBlock))
 unfold impl_Store_commit.f at h
 replace h := bi_ h; obtain ⟨m, AM, h⟩ := h
 clear hB hg hbk hO hP hT hT1 hX hX1
 have hz := cz5_ BK
 replace h := it_ h; obtain ⟨d1, h⟩ | ⟨d1, h⟩ := h
 ·have d1b : decide (60000 < wrap64 ((b.length : Int) + (m.length : Int))) = true := decide_eq_true d1
  have d1c : decide (60000 < IntKind.i64.wrap ((b.length : Int) + (m.length : Int))) = true := by rw [i64_w]; exact d1b
  clear d1
  replace h := so5_ h; obtain ⟨rfl, rfl, rfl, rfl, rfl⟩ := h
  go_enter Try.func66, Try.ntmps66
  go_wp2_with (first | ((with_reducible refine gd_ 6 ?_); refine bx_ 6 28 #[.int .i64 a, .string z] ?_; intro gh hg_ w1 hbox hb; have BH := Aside0.mk hbox; have GH := gg_ hg_ HB; have NGH := nla_ hg_ BK; replace HB := ss_ HB hb; replace BK := kl_ BK hb; replace HO := rb_ HO hb; replace HP := rb_ HP hb; replace HT := Aside0.mk (Kd.C_below HT.out hb); replace HX := Aside0.mk (Kd.C_below HX.out hb); replace HKP := Aside0.mk (Kept.below HKP.out hb); clear hb hbox hg_ hz; have hz := cz5_ BK; have hy := cz2_ BH; have hn := NGH.out; have hn2 := NGH.out.symm) | ((with_reducible refine gq_ 107 14 ?_); refine gc_ 14 Try.func107 (impl_PutCommit.calls k a z _ _ x m _ HX.out HX1.out AM.out) ?_; rintro e w2 ⟨v1, rfl, ho, hb⟩; refine ⟨_, rfl, ?_⟩; have HM := Aside0.mk (Kd.R_lower ho (sz_ HB)); replace HB := ss_ HB hb; replace BK := kl_ BK hb; replace HO := rb_ HO hb; replace HP := rb_ HP hb; replace HT := Aside0.mk (Kd.C_below HT.out hb); replace HX := Aside0.mk (Kd.C_below HX.out hb); replace HKP := Aside0.mk (Kept.below HKP.out hb); replace BH := kl_ BH hb; clear hb ho hz hy; have hz := cz5_ BK; have hy := cz2_ BH; obtain ⟨Am, cm, em⟩ := Kd.R_slice HM.out; subst em))
  go_ret
  exact ⟨rfl, A0, c0, A3, c3, HO.out, HP.out, BK.out, HB.out, HKP.out⟩
 ·have d1b : decide (60000 < wrap64 ((b.length : Int) + (m.length : Int))) = false := decide_eq_false d1
  have d1c : decide (60000 < IntKind.i64.wrap ((b.length : Int) + (m.length : Int))) = false := by rw [i64_w]; exact d1b
  clear d1
  replace h := bi_ h; obtain ⟨⟨q1, q2, q3, q4⟩, AE, h⟩ := h
  dsimp only at h
  have H := Aside0.mk h
  clear h
  go_enter Try.func66, Try.ntmps66
  go_wp2_with (first | ((with_reducible refine gd_ 6 ?_); refine bx_ 6 28 #[.int .i64 a, .string z] ?_; intro gh hg_ w1 hbox hb; have BH := Aside0.mk hbox; have GH := gg_ hg_ HB; have NGH := nla_ hg_ BK; replace HB := ss_ HB hb; replace BK := kl_ BK hb; replace HO := rb_ HO hb; replace HP := rb_ HP hb; replace HT := Aside0.mk (Kd.C_below HT.out hb); replace HX := Aside0.mk (Kd.C_below HX.out hb); replace HKP := Aside0.mk (Kept.below HKP.out hb); clear hb hbox hg_ hz; have hz := cz5_ BK; have hy := cz2_ BH; have hn := NGH.out; have hn2 := NGH.out.symm) | ((with_reducible refine gq_ 107 14 ?_); refine gc_ 14 Try.func107 (impl_PutCommit.calls k a z _ _ x m _ HX.out HX1.out AM.out) ?_; rintro e w2 ⟨v1, rfl, ho, hb⟩; refine ⟨_, rfl, ?_⟩; have HM := Aside0.mk (Kd.R_lower ho (sz_ HB)); replace HB := ss_ HB hb; replace BK := kl_ BK hb; replace HO := rb_ HO hb; replace HP := rb_ HP hb; replace HT := Aside0.mk (Kd.C_below HT.out hb); replace HX := Aside0.mk (Kd.C_below HX.out hb); replace HKP := Aside0.mk (Kept.below HKP.out hb); replace BH := kl_ BH hb; clear hb ho hz hy; have hz := cz5_ BK; have hy := cz2_ BH; obtain ⟨Am, cm, em⟩ := Kd.R_slice HM.out; subst em))
  clear hz hy hn hn2
  replace BK := Aside0.mk (blk_drew BK.out)
  replace BH := Aside0.mk (blk_drew BH.out)
  replace HO := Aside0.mk (Kd.R_drew HO.out)
  replace HP := Aside0.mk (Kd.R_drew HP.out)
  replace HT := Aside0.mk (Kd.C_drew HT.out)
  replace HX := Aside0.mk (Kd.C_drew HX.out)
  replace HM := Aside0.mk (Kd.R_drew HM.out)
  replace HB := Aside0.mk (below_drew1 HB.out)
  replace HKP := Aside0.mk (Kept.drew HKP.out)
  refine start_ (n := 14) (S := fun w' => w'.cell? ⟨g, 0, none⟩ = some (.slice A0 l.length c0) ∧ w'.cell? ⟨g, 1, none⟩ = some (.int .i64 n) ∧ w'.cell? ⟨g, 2, none⟩ = some (.string s) ∧ w'.cell? ⟨gh, 0, none⟩ = some (.int .i64 a) ∧ w'.cell? ⟨gh, 1, none⟩ = some (.string z)) (ds := []) (lz_ 14 0) (by kernel_rfl) rfl rfl ⟨bc0_ BK.out, bc1_ BK.out, bc2_ BK.out, bc0_ BH.out, bc1_ BH.out⟩ (fun hHeld => ?_)
  generalize w2.drew = w3 at BK BH HO HP HT HX HM HB HKP hHeld ⊢
  refine pk_ 0 25 1 ?_
  refine pk_ 1 26 3 ?_
  refine pk_ 2 27 7 ?_
  refine pk_ 4 29 23 ?_
  refine pk_ 6 31 87 ?_
  refine tk_ 3 28 95 ?_
  refine tk_ 5 30 127 ?_
  refine join_ (σ := Value × Nat) 2 (lz_ 14 4095) (fun s_ => [(32, .tuple #[.agg #[s_.1, .int .i64 q2, .string q3], .int .i64 q4]), (24, .tuple #[.agg #[s_.1, .int .i64 q2, .string q3], .int .i64 q4]), (33, .agg #[s_.1, .int .i64 q2, .string q3]), (34, .int .i64 q4), (10, .pointer (some ⟨s_.2, 0, none⟩))]) (fun s_ w' => Aside0 (Kd.R Kd.string 9 w' w0.heap.size (fun k_ => k_ ≠ g) s_.1 q1) ∧ Aside0 (Kd.R Kd.string 9 w' w0.heap.size (fun k_ => k_ ≠ g) (.slice A0 l.length c0) l) ∧ Aside0 (Kd.R (Kd.int .u8) 5 w' w0.heap.size (fun k_ => k_ ≠ g) (.slice A3 b.length c3) b) ∧ Aside0 (Kd.R (Kd.int .u8) 5 w' w0.heap.size (fun _ => True) (.slice Am m.length cm) m) ∧ Aside0 (w'.heap[g]? = some (.cells #[.slice A0 l.length c0, .int .i64 n, .string s, .slice A3 b.length c3, .int .i64 u] 37 (0, 0))) ∧ Aside0 (w'.heap[gh]? = some (.cells #[.int .i64 a, .string z] 28 (0, 0))) ∧ Aside0 (w'.heap[s_.2]? = some (.cells #[.slice none 0 0, .int .i64 0, .string (⟨#[]⟩ : ByteArray)] 31 (0, 0))) ∧ Aside0 (w0.heap.size ≤ s_.2) ∧ Aside0 (w.heap.size ≤ s_.2) ∧ Aside0 (g ≠ s_.2) ∧ Aside0 (gh ≠ s_.2) ∧ Aside0 (Below w0.heap.size w0 w') ∧ Aside0 (Kept w w' (fun k_ => k_ = g ∨ some k_ = (Value.slice A3 b.length c3).ownBlock))) ?_ ?_
  rotate_left
  ·intro hJ
   refine two_ (i := 7) (j := 11) (Ni := some 32) (Nj := some 10) (lz_ 14 255) (lz_ 14 2175) rfl rfl rfl rfl (by kernel_rfl) (by decide) (by decide) (fun K hK => ?_) (fun K hK => ?_)
   ·skip
    refine gf_ Try.func64 (impl_extend.calls k (fun k_ => True) _ _ l n s _ _ t a z (fun k_ => True) _ _ x q1 q2 q3 q4 _ (Kd.V_mk (cl_ HO) (Kd.F_mono (Kd.C_F Kd.heap_string (Kd.R_reads' HO.out).2.2) (fun _ _ => trivial))) HT.out HT1.out (Kd.V_mk HX1.out (Kd.F_mono (Kd.C_F Kd.heap_string HX.out) (fun _ _ => trivial))) AE.out) ?_
    rintro e w4 ⟨v, rfl, ho, hb⟩
    refine ⟨_, rfl, ?_⟩
    have HV := Aside0.mk (Kd.R_mono (ok' := fun k_ => k_ ≠ g) (Kd.R_lower ho (sz_ HB)) (fun k_ hk_ => by have := blk_lt BK.out; omega))
    replace HB := ss_ HB hb
    replace BK := kl_ BK hb; replace BH := kl_ BH hb; replace HO := rb_ HO hb; replace HP := rb_ HP hb; replace HT := Aside0.mk (Kd.C_below HT.out hb); replace HX := Aside0.mk (Kd.C_below HX.out hb); replace HM := rb_ HM hb; replace HKP := Aside0.mk (Kept.below HKP.out hb)
    clear hb ho
    refine hK.out _ _ ⟨bc0_ BK.out, bc1_ BK.out, bc2_ BK.out, bc0_ BH.out, bc1_ BH.out⟩ (fun hHeld => ?_)
    clear hK K
    refine no_ 32 ?_
    refine pk_ 8 24 511 ?_
    refine pk_ 9 33 1023 ?_
    refine pk_ 10 34 2047 ?_
    refine one_ (i := 11) (N := some 10) (lz_ 14 4095) rfl rfl (by kernel_rfl) (by decide) (fun K hK => ?_)
    refine bz_ 10 31 #[.slice none 0 0, .int .i64 0, .string (⟨#[]⟩ : ByteArray)] ?_
    intro gl hg_ w5 hbox hb
    have BL := Aside0.mk hbox
    have GL := gg_ hg_ HB
    have GLW := Aside0.mk (gz_ hg_ HKP.out.1)
    have NGL := nla_ hg_ BK
    have NHL := nla_ hg_ BH
    replace HB := ss_ HB hb
    replace BK := kl_ BK hb; replace BH := kl_ BH hb; replace HO := rb_ HO hb; replace HP := rb_ HP hb; replace HT := Aside0.mk (Kd.C_below HT.out hb); replace HX := Aside0.mk (Kd.C_below HX.out hb); replace HM := rb_ HM hb; replace HKP := Aside0.mk (Kept.below HKP.out hb); replace HV := rb_ HV hb
    clear hb hbox hg_
    refine hK.out _ _ ⟨bc0_ BK.out, bc1_ BK.out, bc2_ BK.out, bc0_ BH.out, bc1_ BH.out⟩ (fun hHeld => ?_)
    clear hK K
    refine no_ 10 ?_
    exact nj_ (hJ (v, gl) _ ⟨HV, HO, HP, HM, BK, BH, BL, GL, GLW, NGL, NHL, HB, HKP⟩)
   ·skip
    refine bz_ 10 31 #[.slice none 0 0, .int .i64 0, .string (⟨#[]⟩ : ByteArray)] ?_
    intro gl hg_ w5 hbox hb
    have BL := Aside0.mk hbox
    have GL := gg_ hg_ HB
    have GLW := Aside0.mk (gz_ hg_ HKP.out.1)
    have NGL := nla_ hg_ BK
    have NHL := nla_ hg_ BH
    replace HB := ss_ HB hb
    replace BK := kl_ BK hb; replace BH := kl_ BH hb; replace HO := rb_ HO hb; replace HP := rb_ HP hb; replace HT := Aside0.mk (Kd.C_below HT.out hb); replace HX := Aside0.mk (Kd.C_below HX.out hb); replace HM := rb_ HM hb; replace HKP := Aside0.mk (Kept.below HKP.out hb)
    clear hb hbox hg_
    refine hK.out _ _ ⟨bc0_ BK.out, bc1_ BK.out, bc2_ BK.out, bc0_ BH.out, bc1_ BH.out⟩ (fun hHeld => ?_)
    clear hK K
    refine no_ 10 ?_
    refine one_ (i := 7) (N := some 32) (lz_ 14 2303) rfl rfl (by kernel_rfl) (by decide) (fun K hK => ?_)
    refine gf_ Try.func64 (impl_extend.calls k (fun k_ => True) _ _ l n s _ _ t a z (fun k_ => True) _ _ x q1 q2 q3 q4 _ (Kd.V_mk (cl_ HO) (Kd.F_mono (Kd.C_F Kd.heap_string (Kd.R_reads' HO.out).2.2) (fun _ _ => trivial))) HT.out HT1.out (Kd.V_mk HX1.out (Kd.F_mono (Kd.C_F Kd.heap_string HX.out) (fun _ _ => trivial))) AE.out) ?_
    rintro e w4 ⟨v, rfl, ho, hb⟩
    refine ⟨_, rfl, ?_⟩
    have HV := Aside0.mk (Kd.R_mono (ok' := fun k_ => k_ ≠ g) (Kd.R_lower ho (sz_ HB)) (fun k_ hk_ => by have := blk_lt BK.out; omega))
    replace HB := ss_ HB hb
    replace BK := kl_ BK hb; replace BH := kl_ BH hb; replace HO := rb_ HO hb; replace HP := rb_ HP hb; replace HT := Aside0.mk (Kd.C_below HT.out hb); replace HX := Aside0.mk (Kd.C_below HX.out hb); replace HM := rb_ HM hb; replace HKP := Aside0.mk (Kept.below HKP.out hb); replace BL := kl_ BL hb
    clear hb ho
    refine hK.out _ _ ⟨bc0_ BK.out, bc1_ BK.out, bc2_ BK.out, bc0_ BH.out, bc1_ BH.out⟩ (fun hHeld => ?_)
    clear hK K
    refine no_ 32 ?_
    refine pk_ 8 24 2559 ?_
    refine pk_ 9 33 3071 ?_
    refine pk_ 10 34 4095 ?_
    exact nj_ (hJ (v, gl) _ ⟨HV, HO, HP, HM, BK, BH, BL, GL, GLW, NGL, NHL, HB, HKP⟩)
  ·clear BK BH HO HP HT HX HM HB HKP hHeld
   rintro ⟨v, gl⟩ w6 ⟨HV, HO, HP, HM, BK, BH, BL, GL, GLW, NGL, NHL, HB, HKP⟩
   dsimp only at HV BL GL GLW NGL NHL
   have hHeld := hn5_ (bc0_ BK.out) (bc1_ BK.out) (bc2_ BK.out) (bc0_ BH.out) (bc1_ BH.out)
   refine nj_ ?_
   obtain ⟨Av, cv, ev⟩ := Kd.R_slice HV.out
   subst ev
   refine one_ (i := 12) (N := none) (lz_ 14 8191) rfl rfl (by kernel_rfl) (by decide) (fun K hK => ?_)
   have hs := cz3_ BL
   have hn1 := NGL.out
   have hn2 := NGL.out.symm
   have hn3 := NHL.out
   have hn4 := NHL.out.symm
   refine skip_ (w1 := ?_) (by rfl) rfl ?_ ?_
   rotate_left
   ·go_simp
    rfl
   obtain ⟨w7, hw7⟩ : ∃ w7 : World, w7 = (((w6.setCell ⟨gl, 0, none⟩ (.slice Av q1.length cv)).setCell ⟨gl, 1, none⟩ (.int .i64 q2)).setCell ⟨gl, 2, none⟩ (.string q3)) := ⟨_, rfl⟩
   rw [← hw7]
   have HV7 : Aside0 (Kd.R Kd.string 9 w7 w0.heap.size (fun k_ => k_ ≠ g) (.slice Av q1.length cv) q1) := ⟨by rw [hw7]; exact kf_ HV BL⟩
   have HO7 : Aside0 (Kd.R Kd.string 9 w7 w0.heap.size (fun k_ => k_ ≠ g) (.slice A0 l.length c0) l) := ⟨by rw [hw7]; exact kf_ HO BL⟩
   have HP7 : Aside0 (Kd.R (Kd.int .u8) 5 w7 w0.heap.size (fun k_ => k_ ≠ g) (.slice A3 b.length c3) b) := ⟨by rw [hw7]; exact kf_ HP BL⟩
   have HM7 : Aside0 (Kd.R (Kd.int .u8) 5 w7 w0.heap.size (fun _ => True) (.slice Am m.length cm) m) := ⟨by rw [hw7]; exact kf_ HM BL⟩
   have BK7 : Aside0 (w7.heap[g]? = some (.cells #[.slice A0 l.length c0, .int .i64 n, .string s, .slice A3 b.length c3, .int .i64 u] 37 (0, 0))) := ⟨by rw [hw7]; exact kq_ BK⟩
   have BH7 : Aside0 (w7.heap[gh]? = some (.cells #[.int .i64 a, .string z] 28 (0, 0))) := ⟨by rw [hw7]; exact kq_ BH⟩
   have BL7 : Aside0 (w7.heap[gl]? = some (.cells #[.slice Av q1.length cv, .int .i64 q2, .string q3] 31 (0, 0))) := ⟨by rw [hw7]; exact kq_ BL⟩
   have HB7 : Aside0 (Below w0.heap.size w0 w7) := ⟨by rw [hw7]; exact bw_ HB⟩
   have HKP7 : Aside0 (Kept w w7 (fun k_ => k_ = g ∨ some k_ = (Value.slice A3 b.length c3).ownBlock)) := ⟨by rw [hw7]; exact Kept.setCell (Kept.setCell (Kept.setCell HKP.out (.inr GLW.out) _) (.inr GLW.out) _) (.inr GLW.out) _⟩
   refine hK.out _ _ ⟨bc0_ BK7.out, bc1_ BK7.out, bc2_ BK7.out, bc0_ BH7.out, bc1_ BH7.out⟩ (fun hHeld => ?_)
   clear hK K HV HO HP HM BK BH BL HB HKP hs hw7
   refine pk_ 13 11 16383 ?_
   refine done_ (by kernel_rfl) ?_
   clear hHeld hn3 hn4
   have hz := cz5_ BK7
   have hl := cz3_ BL7
   have h := H.out
   clear H
   replace h := it_ h; obtain ⟨d2, h⟩ | ⟨d2, h⟩ := h
   ·have d2b : (q4 == 0) = true := beq_iff_eq.mpr d2
    have d2c : (q4 != 0) = false := bne_eq_false_iff_eq.mpr d2
    replace h := ip_ h; obtain ⟨d3, h⟩ := h
    have LM := Aside0.mk d3
    clear d2 d3
    replace h := so5_ h; obtain ⟨rfl, rfl, rfl, rfl, rfl⟩ := h
    go_wp2_with ((at_builtin; refine Kd.R_append_rows (Kd.int .u8) (w0 := w0) w0.heap.size rfl (.tmp 46) (.tmp 47) 22 5 (.int .u8 0) 1 rfl Try.underlying22 info5 rfl (by decide) (by omega) (.slice A3 b.length c3) b m _ _ _ (fun k_ => k_ ≠ g) (fun _ => False) rfl rfl ?aO ?aR (fun _ _ h => h) (fun _ h => h.elim) ?aF ?aB ?aS ?aL ?_; (case aO => exact Kd.R_gone (Kd.R_gone (Kd.R_gone HP7.out 0 (.slice Av q1.length cv)) 1 (.int .i64 q2)) 2 (.string q3)); (case aR => exact (chf_ HM7 BK7)); (case aF => exact (fun k_ hk_ e_ => by have := blk_lt BK7.out; simp [World.setCell] at hk_; omega)); (case aB => exact (bw_ HB7)); (case aS => exact (sz_ HB7)); (case aL => have := LM.out; omega); intro v9 w9 ho hb hgr hat; have BK9 := kgp_ BK7 HP7 hgr; have HV9 := Aside0.mk (Kd.R_mono (Kd.R_after (Kd.R_apart' (Kd.R_gone (Kd.R_gone (Kd.R_gone HV7.out 0 (.slice Av q1.length cv)) 1 (.int .i64 q2)) 2 (.string q3)) (Kd.R_typed (Kd.R_gone (Kd.R_gone (Kd.R_gone HP7.out 0 (.slice Av q1.length cv)) 1 (.int .i64 q2)) 2 (.string q3))) (by decide)) hgr hat) (fun _ h_ => h_.1)); have HKP9 := Aside0.mk (Kept.of_grown hgr (Kept.setCell (Kept.setCell (Kept.setCell HKP7.out (.inl (.inl rfl)) _) (.inl (.inl rfl)) _) (.inl (.inl rfl)) _) (fun k_ hk_ => .inl (.inr hk_.symm))); have HB9 := Aside0.mk hb; obtain ⟨A9, c9, e9⟩ := Kd.R_slice ho; subst e9; have HP9 := Aside0.mk ho; clear ho hb hgr hat hz hl; have hz := cz5_ BK9))
    go_ret
    exact ⟨rfl, Av, cv, A9, c9, Kd.R_gone HV9.out 3 _, Kd.R_gone HP9.out 3 _, (by rw [List.length_append]; exact kq_ BK9), bw_ HB9, Kept.setCell HKP9.out (.inl (.inl rfl)) _⟩
   ·have d2b : (q4 == 0) = false := beq_eq_false_iff_ne.mpr d2
    have d2c : (q4 != 0) = true := bne_iff_ne.mpr d2
    clear d2
    replace h := so5_ h; obtain ⟨rfl, rfl, rfl, rfl, rfl⟩ := h
    go_wp2
    go_ret
    exact ⟨rfl, A0, c0, A3, c3, HO7.out, HP7.out, BK7.out, HB7.out, HKP7.out⟩
end Go.Proofs.Ytjnnglphdaemaaa.Q
end

section
/- The program's OpenStore: the commits of bytes, one behind the other. -/
namespace Go.Proofs.Ytjnnglphdaemaaa.Q
open Go.RowKit Go.Proofs.YtjnnglphdaemaaaW.PrintWords Go.Proofs.YtjnnglphdaemaaaW.PrintLast Go.Proofs.YtjnnglphdaemaaaW.PrintMore
attribute [local go_sem] max2_int min2_int max_two min_two
set_option linter.unusedVariables false
set_option linter.unusedSimpArgs false
def impl_OpenStore.l0 : Nat → List S28 → List Int → Int → Int → Int → List ByteArray → Int → ByteArray → List Int → Option (List ByteArray × Int × ByteArray × List Int × Int)
 | 0, _, _, _, _, _, _, _, _, _ => none
 | k + 1, t, b, u, cnt, at_, l, n, s, m => if at_ < (b.length : Int) then ((impl_GetCommit.f k b at_).bind fun g => (if g.2.2.2.2 = true then ((impl_Store_commit.f k l n s m u t g.1 g.2.1 g.2.2.1).bind fun r => (if r.2.2.2.2 = 0 then (impl_OpenStore.l0 k t b u (wrap64 (cnt + 1)) g.2.2.2.1 r.1 r.2.1 r.2.2.1 r.2.2.2.1) else (some (r.1, r.2.1, r.2.2.1, r.2.2.2.1, cnt)))) else (some (l, n, s, m, cnt)))) else (some (l, n, s, m, cnt))
def impl_OpenStore.f (k : Nat) (t : List S28) (b : List Int) : Option (List ByteArray × Int × ByteArray × List Int × Int × Int) :=
 (impl_StoreNew.f k).bind fun q => ((impl_OpenStore.l0 k t (b.take (mn (b.length : Int) 60000).toNat) q.2.2.2.2 0 0 q.1 q.2.1 q.2.2.1 q.2.2.2.1).bind fun r => some (r.1, r.2.1, r.2.2.1, r.2.2.2.1, (r.2.2.2.1.length : Int), r.2.2.2.2))
set_option maxHeartbeats 8000000 in
set_option maxRecDepth 100000 in
theorem impl_OpenStore.calls (k : Nat) (A0 : Option Addr) (c0 : Nat) (t : List S28) (A1 : Option Addr) (c1 : Nat) (b : List Int) (r1 : List ByteArray) (r2 : Int) (r3 : ByteArray) (r4 : List Int) (r5 r6 : Int) (w : World)
  (hr0 : Kd.C k28 w A0 t.length t) (hc0 : t.length ≤ c0) (hr1 : Kd.C (Kd.int .u8) w A1 b.length b) (hc1 : b.length ≤ c1) (h : impl_OpenStore.f k t b = some (r1, r2, r3, r4, r5, r6)) :
  Calls Try.prog 39 #[.slice A0 t.length c0, .slice A1 b.length c1] w fun e w' => ∃ v0_ v3_ : Value, e = .returned (.tuple #[.agg #[v0_, .int .i64 r2, .string r3, v3_, .int .i64 r5], .int .i64 r6]) ∧ Kd.R Kd.string 9 w' w.heap.size (fun _ => True) v0_ r1 ∧ Kd.R (Kd.int .u8) 5 w' w.heap.size (fun _ => True) v3_ r4 ∧ Below w.heap.size w w' := by
 have hu37 := Try.underlying37
 have hu28 := Try.underlying28
 have HR0 := Aside0.mk hr0
 have HC0 := Aside0.mk hc0
 have HR1 := Aside0.mk hr1
 have HC1 := Aside0.mk hc1
 have HB := Aside0.mk (Below.refl w.heap.size w)
 unfold impl_OpenStore.f at h
 replace h := bi_ h; obtain ⟨⟨q1, q2, q3, q4, q5⟩, AN, h⟩ := h
 dsimp only at h
 obtain ⟨j, hj⟩ : ∃ j : Int, mn (b.length : Int) 60000 = j := ⟨_, rfl⟩
 rw [hj] at h
 have hj0 : 0 ≤ j ∧ j ≤ (b.length : Int) := by
  unfold mn at hj
  split at hj <;> omega
 replace hj : (if (60000 : Int) < (b.length : Int) then 60000 else (b.length : Int)) = j := hj
 have hj2 : decide (0 ≤ j) = true := decide_eq_true hj0.1
 obtain ⟨i0, hi0, _, hsz0, _⟩ := info_parts info5
 obtain ⟨hcut, hA, hC⟩ := print_take_of (P := Try.prog) (Value.int .u8) 0 22 5 .i64 Try.underlying22 hi0 hsz0 A1 c1 b j hj0.1 hj0.2 HC1.out
 have HRb := Aside0.mk (Kd.C_of_reads (h1 := fun _ => rfl) (hA _ (Kd.reads_of_C HR1.out)))
 have HCb := Aside0.mk hC
 clear hA hC hi0 hsz0 hj0 hr0 hc0 hr1 hc1
 generalize b.take j.toNat = b' at *
 replace h := bi_ h; obtain ⟨⟨y1, y2, y3, y4, y5⟩, AL, h⟩ := h
 dsimp only at h
 replace h := so6_ h; obtain ⟨rfl, rfl, rfl, rfl, rfl, rfl⟩ := h
 go_enter Try.func39, Try.ntmps39
 go_wp2_with (first | ((with_reducible refine gd_ 4 ?_); refine bx_ 4 37 #[.slice none 0 0, .int .i64 0, .string (⟨#[]⟩ : ByteArray), .slice none 0 0, .int .i64 0] ?_; intro g4 hg w1 hbox hb; have B4 := Aside0.mk hbox; have G4 := gg_ hg HB; replace HB := ss_ HB hb; clear hb hbox hg) | ((with_reducible refine gq_ 16 19 ?_); refine gc_ 19 Try.func16 (impl_StoreNew.calls k q1 q2 q3 q4 q5 _ AN.out) ?_; rintro e w2 ⟨v0, v3, rfl, ho, hp, hb⟩; refine ⟨_, rfl, ?_⟩; have HO := Aside0.mk (Kd.R_lower ho (sz_ HB)); have HP := Aside0.mk (Kd.R_lower hp (sz_ HB)); replace HB := ss_ HB hb; replace B4 := kl_ B4 hb; clear hb ho hp; obtain ⟨Ao, co, eo⟩ := Kd.R_slice HO.out; subst eo; obtain ⟨Ap, cp, ep⟩ := Kd.R_slice HP.out; subst ep) | ((with_reducible refine gd_ 6 ?_); refine bx_ 6 37 #[.slice none 0 0, .int .i64 0, .string (⟨#[]⟩ : ByteArray), .slice none 0 0, .int .i64 0] ?_; intro g6 hg w3 hbox hb; have B6 := Aside0.mk hbox; have G6 := gg_ hg HB; have N46 := nla_ hg B4; replace HB := ss_ HB hb; replace B4 := kl_ B4 hb; replace HO := rb_ HO hb; replace HP := rb_ HP hb; clear hb hbox hg hj hcut hj2; have hz6 := cz5_ B6))
 go_loopg [7, 8] k (fun kq v7 v8 w' => ∃ (cnt at_ : Int) (l : List ByteArray) (n : Int) (s : ByteArray) (m : List Int) (Ao : Option Addr) (co : Nat) (Ap : Option Addr) (cp : Nat), v7 = .int .i64 cnt ∧ v8 = .int .i64 at_ ∧ Aside0 (impl_OpenStore.l0 kq t b' q5 cnt at_ l n s m = some (y1, y2, y3, y4, y5)) ∧ Aside0 (kq ≤ k) ∧ Aside0 (Kd.R Kd.string 9 w' w.heap.size (fun k_ => k_ ≠ g6) (.slice Ao l.length co) l) ∧ Aside0 (Kd.R (Kd.int .u8) 5 w' w.heap.size (fun k_ => k_ ≠ g6) (.slice Ap m.length cp) m) ∧ Aside0 (w'.heap[g6]? = some (.cells #[.slice Ao l.length co, .int .i64 n, .string s, .slice Ap m.length cp, .int .i64 q5] 37 (0, 0))) ∧ Aside0 (w'.heap[g4]? = some (.cells #[.slice none 0 0, .int .i64 0, .string (⟨#[]⟩ : ByteArray), .slice none 0 0, .int .i64 0] 37 (0, 0))) ∧ Aside0 (Below w.heap.size w w'))
 case atStart => exact ⟨0, 0, q1, q2, q3, q4, Ao, co, Ap, cp, e1_, e1_, AL, ⟨Nat.le_refl _⟩, ⟨Kd.R_mono (Kd.R_far (p := ⟨g6, 4, none⟩) (Kd.R_far (p := ⟨g6, 3, none⟩) (Kd.R_far (p := ⟨g6, 2, none⟩) (Kd.R_far (p := ⟨g6, 1, none⟩) (Kd.R_far (p := ⟨g6, 0, none⟩) (Kd.R_types HO.out B6.out (by decide)) (fun _ hk => hk.2) _) (fun _ hk => hk.2) _) (fun _ hk => hk.2) _) (fun _ hk => hk.2) _) (fun _ hk => hk.2) _) (fun _ h_ => h_.2)⟩, ⟨Kd.R_mono (Kd.R_far (p := ⟨g6, 4, none⟩) (Kd.R_far (p := ⟨g6, 3, none⟩) (Kd.R_far (p := ⟨g6, 2, none⟩) (Kd.R_far (p := ⟨g6, 1, none⟩) (Kd.R_far (p := ⟨g6, 0, none⟩) (Kd.R_types HP.out B6.out (by decide)) (fun _ hk => hk.2) _) (fun _ hk => hk.2) _) (fun _ hk => hk.2) _) (fun _ hk => hk.2) _) (fun _ hk => hk.2) _) (fun _ h_ => h_.2)⟩, ⟨kq_ B6⟩, ⟨kq_ B4⟩, ⟨bw_ HB⟩⟩
 case round =>
  clear AL HO HP B6 B4 HB hz6
  obtain ⟨cnt, at_, l, n, s, m, Ao, co, Ap, cp, rfl, rfl, HA, HK1, HO, HP, B6, B4, HB⟩ := hrel
  cases gk with
  | zero => exact absurd HA.out (by simp [impl_OpenStore.l0])
  | succ k1 =>
   have H := HA.out
   clear HA
   simp only [impl_OpenStore.l0] at H
   replace H := it_ H; obtain ⟨d1, H⟩ | ⟨d1, H⟩ := H
   ·have d1b : decide (at_ < (b'.length : Int)) = true := decide_eq_true d1
    clear d1
    replace H := bi_ H; obtain ⟨⟨g1, g2, g3, gn, g5⟩, AG, H⟩ := H
    dsimp only at H
    replace H := itb_ H; obtain ⟨rfl, H⟩ | ⟨rfl, H⟩ := H
    ·replace H := bi_ H; obtain ⟨⟨z1, z2, z3, z4, z5⟩, AM, H⟩ := H
     dsimp only at H
     replace H := it_ H; obtain ⟨d2, H⟩ | ⟨d2, H⟩ := H
     ·have d2b : (z5 == 0) = true := beq_iff_eq.mpr d2
      have d2c : (z5 != 0) = false := bne_eq_false_iff_eq.mpr d2
      clear d2
      have H' := Aside0.mk H
      clear H
      go_wp2_with (first | ((with_reducible refine gq_ 68 27 ?_); refine gc_ 27 Try.func68 (impl_GetCommit.calls k1 _ _ b' at_ g1 g2 g3 gn true _ (cb_ HRb HB) HCb.out AG.out) ?_; rintro e w5 ⟨v, rfl, ho, hb⟩; refine ⟨_, rfl, ?_⟩; have HX := Aside0.mk (Kd.R_lower ho (sz_ HB)); replace HO := rb_ HO hb; replace HP := rb_ HP hb; replace B4 := kl_ B4 hb; replace B6 := kl_ B6 hb; replace HB := ss_ HB hb; clear hb ho; obtain ⟨Ax, cx, ex⟩ := Kd.R_slice HX.out; subst ex) | ((with_reducible refine gd_ 9 ?_); refine bx_ 9 28 #[.int .i64 0, .string (⟨#[]⟩ : ByteArray)] ?_; intro g9 hg w6 hbox hb; have B9 := Aside0.mk hbox; have G9 := gg_ hg HB; have N69 := nla_ hg B6; have N49 := nla_ hg B4; replace HB := ss_ HB hb; replace B4 := kl_ B4 hb; replace B6 := kl_ B6 hb; replace HO := rb_ HO hb; replace HP := rb_ HP hb; replace HX := rb_ HX hb; clear hb hbox hg; have hz9 := cz2_ B9) | ((with_reducible refine gq_ 66 37 ?_); refine gc_ 37 Try.func66 (impl_Store_commit.calls k1 g6 Ao co l n s Ap cp m q5 _ _ t g1 g2 _ _ g3 z1 z2 z3 z4 z5 w _ G6.out (kq_ B6) (kf_ HO B9) (kf_ HP B9) (Kd.C_below HR0.out (bw_ HB)) HC0.out (chf_ HX B9) (cl_ HX) (bw_ HB) AM.out) ?_; rintro e w7 ⟨rfl, A5, c5, A6, c6, ho, hp, hbk, hb, hk⟩; refine ⟨_, rfl, ?_⟩; replace B4 := Aside0.mk (blk_kept (kq_ B4) hk (fun hs => hs.elim (fun e => N46.out e) (fun e => (Kd.R_ne HP.out B4.out (by decide)) e))); replace B6 := Aside0.mk hbk; replace HB := Aside0.mk hb; replace HO := Aside0.mk ho; replace HP := Aside0.mk hp; clear hb hbk ho hp hk hz9 B9 N69 N49 HX))
      go_roundg k1
      case measure => have := HK1.out; omega
      case rel => exact ⟨wrap64 (cnt + 1), gn, z1, z2, z3, z4, A5, c5, A6, c6, e1_, e1_, H', ⟨by have := HK1.out; omega⟩, HO, HP, B6, B4, HB⟩
     ·have d2b : (z5 == 0) = false := beq_eq_false_iff_ne.mpr d2
      have d2c : (z5 != 0) = true := bne_iff_ne.mpr d2
      clear d2
      replace H := so5_ H; obtain ⟨rfl, rfl, rfl, rfl, rfl⟩ := H
      go_wp2_with (first | ((with_reducible refine gq_ 68 27 ?_); refine gc_ 27 Try.func68 (impl_GetCommit.calls k1 _ _ b' at_ g1 g2 g3 gn true _ (cb_ HRb HB) HCb.out AG.out) ?_; rintro e w5 ⟨v, rfl, ho, hb⟩; refine ⟨_, rfl, ?_⟩; have HX := Aside0.mk (Kd.R_lower ho (sz_ HB)); replace HO := rb_ HO hb; replace HP := rb_ HP hb; replace B4 := kl_ B4 hb; replace B6 := kl_ B6 hb; replace HB := ss_ HB hb; clear hb ho; obtain ⟨Ax, cx, ex⟩ := Kd.R_slice HX.out; subst ex) | ((with_reducible refine gd_ 9 ?_); refine bx_ 9 28 #[.int .i64 0, .string (⟨#[]⟩ : ByteArray)] ?_; intro g9 hg w6 hbox hb; have B9 := Aside0.mk hbox; have G9 := gg_ hg HB; have N69 := nla_ hg B6; have N49 := nla_ hg B4; replace HB := ss_ HB hb; replace B4 := kl_ B4 hb; replace B6 := kl_ B6 hb; replace HO := rb_ HO hb; replace HP := rb_ HP hb; replace HX := rb_ HX hb; clear hb hbox hg; have hz9 := cz2_ B9) | ((with_reducible refine gq_ 66 37 ?_); refine gc_ 37 Try.func66 (impl_Store_commit.calls k1 g6 Ao co l n s Ap cp m q5 _ _ t g1 g2 _ _ g3 z1 z2 z3 z4 z5 w _ G6.out (kq_ B6) (kf_ HO B9) (kf_ HP B9) (Kd.C_below HR0.out (bw_ HB)) HC0.out (chf_ HX B9) (cl_ HX) (bw_ HB) AM.out) ?_; rintro e w7 ⟨rfl, A5, c5, A6, c6, ho, hp, hbk, hb, hk⟩; refine ⟨_, rfl, ?_⟩; replace B4 := Aside0.mk (blk_kept (kq_ B4) hk (fun hs => hs.elim (fun e => N46.out e) (fun e => (Kd.R_ne HP.out B4.out (by decide)) e))); replace B6 := Aside0.mk hbk; replace HB := Aside0.mk hb; replace HO := Aside0.mk ho; replace HP := Aside0.mk hp; clear hb hbk ho hp hk hz9 B9 N69 N49 HX; have hz6 := cz5_ B6; have hz4 := cz5_ B4; have hn5 := N46.out; have hn6 := N46.out.symm))
      refine bodyPost_ret (results_ct rfl _ _ g4 37 #[.slice A5 z1.length c5, .int .i64 z2, .string z3, .slice A6 z4.length c6, .int .i64 (z4.length : Int)] (0, 0) _ rfl (by exact kq_ B4) Try.underlying37 rfl (by kernel_rfl)) rfl ?_
      exact ⟨_, _, rfl, Kd.R_mono (kf_ ⟨Kd.R_gone HO.out 4 (.int .i64 (z4.length : Int))⟩ ⟨kq_ B4⟩) (fun _ _ => trivial), Kd.R_mono (kf_ ⟨Kd.R_gone HP.out 4 (.int .i64 (z4.length : Int))⟩ ⟨kq_ B4⟩) (fun _ _ => trivial), bw_ HB⟩
    ·replace H := so5_ H; obtain ⟨rfl, rfl, rfl, rfl, rfl⟩ := H
     go_wp2_with (first | ((with_reducible refine gq_ 68 27 ?_); refine gc_ 27 Try.func68 (impl_GetCommit.calls k1 _ _ b' at_ g1 g2 g3 gn false _ (cb_ HRb HB) HCb.out AG.out) ?_; rintro e w5 ⟨v, rfl, ho, hb⟩; refine ⟨_, rfl, ?_⟩; have HX := Aside0.mk (Kd.R_lower ho (sz_ HB)); replace HO := rb_ HO hb; replace HP := rb_ HP hb; replace B4 := kl_ B4 hb; replace B6 := kl_ B6 hb; replace HB := ss_ HB hb; clear hb ho; obtain ⟨Ax, cx, ex⟩ := Kd.R_slice HX.out; subst ex) | ((with_reducible refine gd_ 9 ?_); refine bx_ 9 28 #[.int .i64 0, .string (⟨#[]⟩ : ByteArray)] ?_; intro g9 hg w6 hbox hb; have B9 := Aside0.mk hbox; have G9 := gg_ hg HB; have N69 := nla_ hg B6; have N49 := nla_ hg B4; replace HB := ss_ HB hb; replace B4 := kl_ B4 hb; replace B6 := kl_ B6 hb; replace HO := rb_ HO hb; replace HP := rb_ HP hb; replace HX := rb_ HX hb; clear hb hbox hg; have hz9 := cz2_ B9; have hz6 := cz5_ B6; have hz4 := cz5_ B4; have hn1 := N69.out; have hn2 := N69.out.symm; have hn3 := N49.out; have hn4 := N49.out.symm; have hn5 := N46.out; have hn6 := N46.out.symm))
     refine bodyPost_ret (results_ct rfl _ _ g4 37 #[.slice Ao l.length co, .int .i64 n, .string s, .slice Ap m.length cp, .int .i64 (m.length : Int)] (0, 0) _ rfl (by exact kq_ B4) Try.underlying37 rfl (by kernel_rfl)) rfl ?_
     have HO2 : Aside0 (Kd.R Kd.string 9 ((w6.setCell ⟨g9, 0, none⟩ (.int .i64 g1)).setCell ⟨g9, 1, none⟩ (.string g2)) w.heap.size (fun k_ => k_ ≠ g6) (.slice Ao l.length co) l) := ⟨kf_ HO B9⟩
     have HP2 : Aside0 (Kd.R (Kd.int .u8) 5 ((w6.setCell ⟨g9, 0, none⟩ (.int .i64 g1)).setCell ⟨g9, 1, none⟩ (.string g2)) w.heap.size (fun k_ => k_ ≠ g6) (.slice Ap m.length cp) m) := ⟨kf_ HP B9⟩
     exact ⟨_, _, rfl, Kd.R_mono (kf_ ⟨Kd.R_gone HO2.out 4 (.int .i64 (m.length : Int))⟩ ⟨kq_ B4⟩) (fun _ _ => trivial), Kd.R_mono (kf_ ⟨Kd.R_gone HP2.out 4 (.int .i64 (m.length : Int))⟩ ⟨kq_ B4⟩) (fun _ _ => trivial), bw_ HB⟩
   ·have d1b : decide (at_ < (b'.length : Int)) = false := decide_eq_false d1
    clear d1
    replace H := so5_ H; obtain ⟨rfl, rfl, rfl, rfl, rfl⟩ := H
    have hz6 := cz5_ B6
    have hz4 := cz5_ B4
    have hn5 := N46.out
    have hn6 := N46.out.symm
    go_wp2
    refine bodyPost_ret (results_ct rfl _ _ g4 37 #[.slice Ao l.length co, .int .i64 n, .string s, .slice Ap m.length cp, .int .i64 (m.length : Int)] (0, 0) _ rfl (by exact kq_ B4) Try.underlying37 rfl (by kernel_rfl)) rfl ?_
    exact ⟨_, _, rfl, Kd.R_mono (kf_ ⟨Kd.R_gone HO.out 4 (.int .i64 (m.length : Int))⟩ ⟨kq_ B4⟩) (fun _ _ => trivial), Kd.R_mono (kf_ ⟨Kd.R_gone HP.out 4 (.int .i64 (m.length : Int))⟩ ⟨kq_ B4⟩) (fun _ _ => trivial), bw_ HB⟩
end Go.Proofs.Ytjnnglphdaemaaa.Q
end

section
/- A row far from two or three blocks of other types. -/
namespace Go.Proofs.Ytjnnglphdaemaaa.Q
open Go.RowKit Go.Proofs.YtjnnglphdaemaaaW.PrintWords Go.Proofs.YtjnnglphdaemaaaW.PrintLast Go.Proofs.YtjnnglphdaemaaaW.PrintMore
set_option linter.unusedVariables false
section
variable {α : Type} {d : Kd α} {e base : Nat} {ok : Nat → Prop} {w W : World} {v : Value} {xs : List α}
end
end Go.Proofs.Ytjnnglphdaemaaa.Q
end

section
-- Written by a program of this session (wip/tools/pp.sh) over the print of the kit.
namespace Go.Proofs.Ytjnnglphdaemaaa.Q
open Go.RowKit Go.Proofs.YtjnnglphdaemaaaW.PrintWords Go.Proofs.YtjnnglphdaemaaaW.PrintLast Go.Proofs.YtjnnglphdaemaaaW.PrintMore
attribute [local go_sem] max2_int min2_int max_two min_two max_three min_three max_four min_four   -- for this text's walks alone
set_option linter.unusedVariables false
set_option linter.unusedSimpArgs false
def spec_l12Commit.f (k : Nat) (l0_0 : List ByteArray) (a0_1 : Int) (a0_2 : ByteArray) (l0_3 : List Int) (a0_4 : Int) (l1 : List (S28)) (a2_0 : Int) (a2_1 : ByteArray) (l3 : List ByteArray) : Option (List ByteArray × Int × ByteArray × List Int × Int × Int) := (spec_l12Copy.f l0_0 a0_1 a0_2 l0_3 a0_4).bind fun bt604 => ((spec_Extend.f k l0_0 a0_1 a0_2 l1 a2_0 a2_1 l3).bind fun bt614 => (if bt614.2.2.2 = 0 then ((spec_l12Put.f k a2_0 a2_1 l3).bind fun t621 => (if bt604.2.2.2.1.length + t621.length < 140737488355328 then (some (bt614.1, bt614.2.1, bt614.2.2.1, (bt604.2.2.2.1 ++ t621), bt604.2.2.2.2, 0)) else (none))) else (some (bt604.1, bt604.2.1, bt604.2.2.1, bt604.2.2.2.1, bt604.2.2.2.2, bt614.2.2.2))))
def spec_l12Commit.T6 : Bool × List (List Nat × List Nat) := (true, [([], []), ([0], [0]), ([], []), ([], []), ([2, 3], [2, 3]), ([1, 4, 4], [1, 4]), ([0, 1, 2, 3, 4, 5], []), ([6, 5, 5, 0, 1, 2, 3, 4, 5], [5, 6])])
def spec_l12Commit.B6 : List Nat := [0, 1, 0, 0, 12, 31, 63, 127]
theorem spec_l12Commit.tab6 : rtab .any (opsOf Try.f97 6) = spec_l12Commit.T6 := by kernel_rfl
theorem spec_l12Commit.bits6 : waitsOk spec_l12Commit.T6.2 spec_l12Commit.B6 = true := by kernel_rfl
set_option maxHeartbeats 8000000 in
set_option maxRecDepth 100000 in
theorem spec_l12Commit.calls (k : Nat) (A0_0 : Option Addr) (c0_0 : Nat) (l0_0 : List ByteArray) (a0_1 : Int) (a0_2 : ByteArray) (A0_3 : Option Addr) (c0_3 : Nat) (l0_3 : List Int) (a0_4 : Int) (A1 : Option Addr) (c1 : Nat) (l1 : List (S28)) (a2_0 : Int) (a2_1 : ByteArray) (A3 : Option Addr) (c3 : Nat) (l3 : List ByteArray) (r1 : List ByteArray) (r2 : Int) (r3 : ByteArray) (r4 : List Int) (r5 : Int) (r6 : Int) (w : World) (hr0_0 : Kd.C Kd.string w A0_0 l0_0.length l0_0) (hc0_0 : l0_0.length ≤ c0_0) (hr0_3 : Kd.C (Kd.int .u8) w A0_3 l0_3.length l0_3) (hc0_3 : l0_3.length ≤ c0_3) (hr1 : Kd.C k28 w A1 l1.length l1) (hc1 : l1.length ≤ c1) (hr3 : Kd.C Kd.string w A3 l3.length l3) (hc3 : l3.length ≤ c3) (h : spec_l12Commit.f k l0_0 a0_1 a0_2 l0_3 a0_4 l1 a2_0 a2_1 l3 = some (r1, r2, r3, r4, r5, r6)) :
  Calls Try.prog 97 #[.agg #[.slice A0_0 l0_0.length c0_0, .int .i64 a0_1, .string a0_2, .slice A0_3 l0_3.length c0_3, .int .i64 a0_4], .slice A1 l1.length c1, .agg #[.int .i64 a2_0, .string a2_1], .slice A3 l3.length c3] w fun e w' => ∃ v0_ v3_ : Value, e = .returned (.tuple #[.agg #[v0_, .int .i64 r2, .string r3, v3_, .int .i64 r5], .int .i64 r6]) ∧ Kd.R Kd.string 9 w' w.heap.size (fun _ => True) v0_ r1 ∧ Kd.R (Kd.int .u8) 5 w' w.heap.size (fun _ => True) v3_ r4 ∧ Below w.heap.size w w' := by
 have hu37 := Try.underlying37
 have hu28 := Try.underlying28
 have hu31 := Try.underlying31
 have HR0_0 := Aside0.mk hr0_0
 have HC0_0 := Aside0.mk hc0_0
 clear hr0_0 hc0_0
 have HR0_3 := Aside0.mk hr0_3
 have HC0_3 := Aside0.mk hc0_3
 clear hr0_3 hc0_3
 have HR1 := Aside0.mk hr1
 have HC1 := Aside0.mk hc1
 clear hr1 hc1
 have HR3 := Aside0.mk hr3
 have HC3 := Aside0.mk hc3
 clear hr3 hc3
 have HB := Aside0.mk (Below.refl w.heap.size w)
 have H : ((spec_l12Copy.f l0_0 a0_1 a0_2 l0_3 a0_4).bind fun bt604 => ((spec_Extend.f k l0_0 a0_1 a0_2 l1 a2_0 a2_1 l3).bind fun bt614 => (if bt614.2.2.2 = 0 then ((spec_l12Put.f k a2_0 a2_1 l3).bind fun t621 => (if bt604.2.2.2.1.length + t621.length < 140737488355328 then (some (bt614.1, bt614.2.1, bt614.2.2.1, (bt604.2.2.2.1 ++ t621), bt604.2.2.2.2, 0)) else (none))) else (some (bt604.1, bt604.2.1, bt604.2.2.1, bt604.2.2.2.1, bt604.2.2.2.2, bt614.2.2.2))))) = some (r1, r2, r3, r4, r5, r6) := h
 clear h
 replace H := bi_ H; obtain ⟨⟨t604, t607, t608, t609, t612⟩, A5, H⟩ := H
 dsimp only at H
 replace H := bi_ H; obtain ⟨⟨t614, t617, t618, t619⟩, A6, H⟩ := H
 dsimp only at H
 replace H := it_ H; obtain ⟨c7, H⟩ | ⟨c7, H⟩ := H
 ·have c7b0 : (t619 == 0) = true := beq_iff_eq.mpr c7
  have c7b1 : (t619 != 0) = false := bne_eq_false_iff_eq.mpr c7
  clear c7
  replace H := bi_ H; obtain ⟨t621, A8, H⟩ := H
  replace H := ip_ H; obtain ⟨c9, H⟩ := H
  have LMc9 := Aside0.mk c9
  clear c9
  obtain ⟨y624, hy624⟩ : ∃ y_ : List Int, y_ = (t609 ++ t621) := ⟨_, rfl⟩
  replace H : (some (t614, t617, t618, y624, t612, 0)) = some (r1, r2, r3, r4, r5, r6) := yh_ hy624 H
  have Ny624 := Aside0.mk hy624
  clear hy624
  replace H := so6_ H; obtain ⟨rfl, rfl, rfl, rfl, rfl, rfl⟩ := H
  go_enter Try.func97, Try.ntmps97
  try go_wp2_with (first | ((with_reducible refine gd_ 4 ?_); refine bx_ 4 37 #[.slice A0_0 l0_0.length c0_0, .int .i64 a0_1, .string a0_2, .slice A0_3 l0_3.length c0_3, .int .i64 a0_4] ?_; intro gb601 hg w10 hbox hb; have BK601 := Aside0.mk hbox; have GW601 := gg_ hg HB; have GE601 := GW601; replace HB := ss_ HB hb; clear hb hbox hg) | ((with_reducible refine gd_ 6 ?_); refine bx_ 6 28 #[.int .i64 a2_0, .string a2_1] ?_; intro gb602 hg w11 hbox hb; have BK602 := Aside0.mk hbox; have GW602 := gg_ hg HB; have GE602 := GW602; replace HB := ss_ HB hb; have NB601_602 := nla_ hg BK601; have NB602_601 := nga_ hg BK601; replace BK601 := kl_ BK601 hb; clear hb hbox hg) | ((with_reducible refine gd_ 8 ?_); refine bx_ 8 37 #[.slice none 0 0, .int .i64 0, .string (⟨#[]⟩ : ByteArray), .slice none 0 0, .int .i64 0] ?_; intro gb603 hg w12 hbox hb; have BK603 := Aside0.mk hbox; have GW603 := gg_ hg HB; have GE603 := GW603; replace HB := ss_ HB hb; have NB601_603 := nla_ hg BK601; have NB603_601 := nga_ hg BK601; replace BK601 := kl_ BK601 hb; have NB602_603 := nla_ hg BK602; have NB603_602 := nga_ hg BK602; replace BK602 := kl_ BK602 hb; clear hb hbox hg; have hnb13 := NB601_602.out; have hnc13 := NB602_601.out; have hnb14 := NB601_603.out; have hnc14 := NB603_601.out; have hz15 := cz5_ BK601) | ((with_reducible refine gq_ 87 14 ?_); refine gc_ 14 Try.func87 (spec_l12Copy.calls _ _ l0_0 a0_1 a0_2 _ _ l0_3 a0_4 t604 t607 t608 t609 t612 _ (cb_ HR0_0 HB) HC0_0.out (cb_ HR0_3 HB) HC0_3.out A5.out) ?_; rintro e w16 ⟨v605, v610, rfl, ho0, ho1, hb⟩; refine ⟨_, rfl, ?_⟩; have HO606 := Aside0.mk (Kd.R_lower ho0 (sz_ HB)); have HO611 := Aside0.mk (Kd.R_lower ho1 (sz_ HB)); replace BK601 := kl_ BK601 hb; replace BK602 := kl_ BK602 hb; replace BK603 := kl_ BK603 hb; replace HB := ss_ HB hb; clear hb ho0 ho1) | ((with_reducible refine gd_ 10 ?_); refine bx_ 10 37 #[.slice none 0 0, .int .i64 0, .string (⟨#[]⟩ : ByteArray), .slice none 0 0, .int .i64 0] ?_; intro gb613 hg w17 hbox hb; replace HO606 := rb_ HO606 hb; replace HO611 := rb_ HO611 hb; have BK613 := Aside0.mk hbox; have GW613 := gg_ hg HB; have GE613 := GW613; replace HB := ss_ HB hb; have NB601_613 := nla_ hg BK601; have NB613_601 := nga_ hg BK601; replace BK601 := kl_ BK601 hb; have NB602_613 := nla_ hg BK602; have NB613_602 := nga_ hg BK602; replace BK602 := kl_ BK602 hb; have NB603_613 := Aside0.mk ((by rw [hg]; exact Nat.ne_of_lt (blk_lt (kb_ BK603.out)) : gb603 ≠ gb613)); have NB613_603 := Aside0.mk ((by rw [hg]; exact Nat.ne_of_gt (blk_lt (kb_ BK603.out)) : gb613 ≠ gb603)); replace BK603 := kl_ BK603 hb; clear hb hbox hg; obtain ⟨Ao18, co18, eo18⟩ := Kd.R_slice HO606.out; subst eo18; have hnb19 := NB613_601.out; have hnc19 := NB601_613.out; have hnb20 := NB613_602.out; have hnc20 := NB602_613.out; have hnb21 := NB613_603.out; have hnc21 := NB603_613.out; have hz22 := cz5_ BK613; obtain ⟨Ao23, co23, eo23⟩ := Kd.R_slice HO611.out; subst eo23; have hz24 := cz5_ BK601; have hnb25 := NB602_603.out; have hnc25 := NB603_602.out; have hz26 := cz2_ BK602) | ((with_reducible refine gq_ 21 21 ?_); refine gc_ 21 Try.func21 (spec_Extend.calls k _ _ l0_0 a0_1 a0_2 _ _ l1 a2_0 a2_1 _ _ l3 t614 t617 t618 t619 _ (Kd.C_below HR0_0.out (bw_ HB)) HC0_0.out (Kd.C_below HR1.out (bw_ HB)) HC1.out (Kd.C_below HR3.out (bw_ HB)) HC3.out A6.out) ?_; rintro e w27 ⟨v615, rfl, ho0, hb⟩; refine ⟨_, rfl, ?_⟩; replace HO611 := rbf_ HO611 BK613 hb; have HO616 := Aside0.mk (Kd.R_lower (Kd.R_new' ho0 (lf_ HO606 BK613)) (sz_ HB)); replace HO606 := ref_ HO606 BK613 ho0 hb; replace BK601 := kp_ BK601 hb; replace BK602 := kp_ BK602 hb; replace BK603 := kp_ BK603 hb; replace BK613 := kp_ BK613 hb; replace HB := ss_ HB hb; clear hb ho0) | ((with_reducible refine gd_ 11 ?_); refine bx_ 11 31 #[.slice none 0 0, .int .i64 0, .string (⟨#[]⟩ : ByteArray)] ?_; intro gb620 hg w28 hbox hb; replace HO606 := rb_ HO606 hb; replace HO611 := rb_ HO611 hb; replace HO616 := rb_ HO616 hb; have BK620 := Aside0.mk hbox; have GW620 := gg_ hg HB; have GE620 := GW620; replace HB := ss_ HB hb; have NB601_620 := nla_ hg BK601; have NB620_601 := nga_ hg BK601; replace BK601 := kl_ BK601 hb; have NB602_620 := nla_ hg BK602; have NB620_602 := nga_ hg BK602; replace BK602 := kl_ BK602 hb; have NB603_620 := Aside0.mk ((by rw [hg]; exact Nat.ne_of_lt (blk_lt (kb_ BK603.out)) : gb603 ≠ gb620)); have NB620_603 := Aside0.mk ((by rw [hg]; exact Nat.ne_of_gt (blk_lt (kb_ BK603.out)) : gb620 ≠ gb603)); replace BK603 := kl_ BK603 hb; have NB613_620 := nla_ hg BK613; have NB620_613 := nga_ hg BK613; replace BK613 := kl_ BK613 hb; clear hb hbox hg; obtain ⟨Ao29, co29, eo29⟩ := Kd.R_slice HO616.out; subst eo29; have hnb30 := NB620_601.out; have hnc30 := NB601_620.out; have hnb31 := NB620_602.out; have hnc31 := NB602_620.out; have hnb32 := NB620_603.out; have hnc32 := NB603_620.out; have hnb33 := NB620_613.out; have hnc33 := NB613_620.out; have hz34 := cz3_ BK620; have hz35 := cz5_ BK613))
  have n0_ : Aside0 (Kd.R Kd.string 9 ((((((w28.setCell ⟨gb620, 0, none⟩ (.slice Ao29 t614.length co29)).setCell ⟨gb620, 1, none⟩ (.int .i64 t617)).setCell ⟨gb620, 2, none⟩ (.string t618)).setCell ⟨gb613, 0, none⟩ (.slice Ao29 t614.length co29)).setCell ⟨gb613, 1, none⟩ (.int .i64 t617)).setCell ⟨gb613, 2, none⟩ (.string t618)) w.heap.size (fun k_ => some k_ ≠ (.slice Ao29 t614.length co29 : Value).ownBlock) (.slice Ao18 t604.length co18) t604) := ⟨by (with_reducible repeat (first | apply Kd.R_alloc | apply Kd.R_drewN | apply Kd.R_drew)); exact Kd.R_mono (Kd.R_far (p := ⟨gb613, 2, none⟩) (Kd.R_far (p := ⟨gb613, 1, none⟩) (Kd.R_far (p := ⟨gb613, 0, none⟩) (Kd.R_far (p := ⟨gb620, 2, none⟩) (Kd.R_far (p := ⟨gb620, 1, none⟩) (Kd.R_far (p := ⟨gb620, 0, none⟩) (Kd.R_types (Kd.R_types HO606.out BK620.out (by decide)) BK613.out (by decide)) (fun _ hk => hk.1.2) (.slice Ao29 t614.length co29)) (fun _ hk => hk.1.2) (.int .i64 t617)) (fun _ hk => hk.1.2) (.string t618)) (fun _ hk => hk.2) (.slice Ao29 t614.length co29)) (fun _ hk => hk.2) (.int .i64 t617)) (fun _ hk => hk.2) (.string t618)) (fun _ hk => hk.1.1.2)⟩
  have n1_ : Aside0 (Kd.R (Kd.int .u8) 5 ((((((w28.setCell ⟨gb620, 0, none⟩ (.slice Ao29 t614.length co29)).setCell ⟨gb620, 1, none⟩ (.int .i64 t617)).setCell ⟨gb620, 2, none⟩ (.string t618)).setCell ⟨gb613, 0, none⟩ (.slice Ao29 t614.length co29)).setCell ⟨gb613, 1, none⟩ (.int .i64 t617)).setCell ⟨gb613, 2, none⟩ (.string t618)) w.heap.size (fun _ => True) (.slice Ao23 t609.length co23) t609) := ⟨by (with_reducible repeat (first | apply Kd.R_alloc | apply Kd.R_drewN | apply Kd.R_drew)); exact Kd.R_mono (Kd.R_far (p := ⟨gb613, 2, none⟩) (Kd.R_far (p := ⟨gb613, 1, none⟩) (Kd.R_far (p := ⟨gb613, 0, none⟩) (Kd.R_far (p := ⟨gb620, 2, none⟩) (Kd.R_far (p := ⟨gb620, 1, none⟩) (Kd.R_far (p := ⟨gb620, 0, none⟩) (Kd.R_types (Kd.R_types HO611.out BK620.out (by decide)) BK613.out (by decide)) (fun _ hk => hk.1.2) (.slice Ao29 t614.length co29)) (fun _ hk => hk.1.2) (.int .i64 t617)) (fun _ hk => hk.1.2) (.string t618)) (fun _ hk => hk.2) (.slice Ao29 t614.length co29)) (fun _ hk => hk.2) (.int .i64 t617)) (fun _ hk => hk.2) (.string t618)) (fun _ hk => trivial)⟩
  have n2_ : Aside0 (Kd.R Kd.string 9 ((((((w28.setCell ⟨gb620, 0, none⟩ (.slice Ao29 t614.length co29)).setCell ⟨gb620, 1, none⟩ (.int .i64 t617)).setCell ⟨gb620, 2, none⟩ (.string t618)).setCell ⟨gb613, 0, none⟩ (.slice Ao29 t614.length co29)).setCell ⟨gb613, 1, none⟩ (.int .i64 t617)).setCell ⟨gb613, 2, none⟩ (.string t618)) w.heap.size (fun k_ => some k_ ≠ (.slice Ao18 t604.length co18 : Value).ownBlock) (.slice Ao29 t614.length co29) t614) := ⟨by (with_reducible repeat (first | apply Kd.R_alloc | apply Kd.R_drewN | apply Kd.R_drew)); exact Kd.R_mono (Kd.R_far (p := ⟨gb613, 2, none⟩) (Kd.R_far (p := ⟨gb613, 1, none⟩) (Kd.R_far (p := ⟨gb613, 0, none⟩) (Kd.R_far (p := ⟨gb620, 2, none⟩) (Kd.R_far (p := ⟨gb620, 1, none⟩) (Kd.R_far (p := ⟨gb620, 0, none⟩) (Kd.R_types (Kd.R_types HO616.out BK620.out (by decide)) BK613.out (by decide)) (fun _ hk => hk.1.2) (.slice Ao29 t614.length co29)) (fun _ hk => hk.1.2) (.int .i64 t617)) (fun _ hk => hk.1.2) (.string t618)) (fun _ hk => hk.2) (.slice Ao29 t614.length co29)) (fun _ hk => hk.2) (.int .i64 t617)) (fun _ hk => hk.2) (.string t618)) (fun _ hk => hk.1.1.2)⟩
  have n3_ : Aside0 (((((((w28.setCell ⟨gb620, 0, none⟩ (.slice Ao29 t614.length co29)).setCell ⟨gb620, 1, none⟩ (.int .i64 t617)).setCell ⟨gb620, 2, none⟩ (.string t618)).setCell ⟨gb613, 0, none⟩ (.slice Ao29 t614.length co29)).setCell ⟨gb613, 1, none⟩ (.int .i64 t617)).setCell ⟨gb613, 2, none⟩ (.string t618)).heap[gb601]? = some (.cells #[.slice A0_0 l0_0.length c0_0, .int .i64 a0_1, .string a0_2, .slice A0_3 l0_3.length c0_3, .int .i64 a0_4] 37 (0, 0))) := ⟨kq_ BK601⟩
  have n4_ : Aside0 (((((((w28.setCell ⟨gb620, 0, none⟩ (.slice Ao29 t614.length co29)).setCell ⟨gb620, 1, none⟩ (.int .i64 t617)).setCell ⟨gb620, 2, none⟩ (.string t618)).setCell ⟨gb613, 0, none⟩ (.slice Ao29 t614.length co29)).setCell ⟨gb613, 1, none⟩ (.int .i64 t617)).setCell ⟨gb613, 2, none⟩ (.string t618)).heap[gb602]? = some (.cells #[.int .i64 a2_0, .string a2_1] 28 (0, 0))) := ⟨kq_ BK602⟩
  have n5_ : Aside0 (((((((w28.setCell ⟨gb620, 0, none⟩ (.slice Ao29 t614.length co29)).setCell ⟨gb620, 1, none⟩ (.int .i64 t617)).setCell ⟨gb620, 2, none⟩ (.string t618)).setCell ⟨gb613, 0, none⟩ (.slice Ao29 t614.length co29)).setCell ⟨gb613, 1, none⟩ (.int .i64 t617)).setCell ⟨gb613, 2, none⟩ (.string t618)).heap[gb603]? = some (.cells #[.slice none 0 0, .int .i64 0, .string (⟨#[]⟩ : ByteArray), .slice none 0 0, .int .i64 0] 37 (0, 0))) := ⟨kq_ BK603⟩
  have n6_ : Aside0 (((((((w28.setCell ⟨gb620, 0, none⟩ (.slice Ao29 t614.length co29)).setCell ⟨gb620, 1, none⟩ (.int .i64 t617)).setCell ⟨gb620, 2, none⟩ (.string t618)).setCell ⟨gb613, 0, none⟩ (.slice Ao29 t614.length co29)).setCell ⟨gb613, 1, none⟩ (.int .i64 t617)).setCell ⟨gb613, 2, none⟩ (.string t618)).heap[gb613]? = some (.cells #[.slice Ao29 t614.length co29, .int .i64 t617, .string t618, .slice Ao23 t609.length co23, .int .i64 t612] 37 (0, 0))) := ⟨kq_ BK613⟩
  have n7_ : Aside0 (((((((w28.setCell ⟨gb620, 0, none⟩ (.slice Ao29 t614.length co29)).setCell ⟨gb620, 1, none⟩ (.int .i64 t617)).setCell ⟨gb620, 2, none⟩ (.string t618)).setCell ⟨gb613, 0, none⟩ (.slice Ao29 t614.length co29)).setCell ⟨gb613, 1, none⟩ (.int .i64 t617)).setCell ⟨gb613, 2, none⟩ (.string t618)).heap[gb620]? = some (.cells #[.slice Ao29 t614.length co29, .int .i64 t617, .string t618] 31 (0, 0))) := ⟨kq_ BK620⟩
  have n8_ : Aside0 (Below w.heap.size w ((((((w28.setCell ⟨gb620, 0, none⟩ (.slice Ao29 t614.length co29)).setCell ⟨gb620, 1, none⟩ (.int .i64 t617)).setCell ⟨gb620, 2, none⟩ (.string t618)).setCell ⟨gb613, 0, none⟩ (.slice Ao29 t614.length co29)).setCell ⟨gb613, 1, none⟩ (.int .i64 t617)).setCell ⟨gb613, 2, none⟩ (.string t618))) := ⟨bw_ HB⟩
  generalize ((((((w28.setCell ⟨gb620, 0, none⟩ (.slice Ao29 t614.length co29)).setCell ⟨gb620, 1, none⟩ (.int .i64 t617)).setCell ⟨gb620, 2, none⟩ (.string t618)).setCell ⟨gb613, 0, none⟩ (.slice Ao29 t614.length co29)).setCell ⟨gb613, 1, none⟩ (.int .i64 t617)).setCell ⟨gb613, 2, none⟩ (.string t618)) = w36 at n0_ n1_ n2_ n3_ n4_ n5_ n6_ n7_ n8_ ⊢
  have HO606 := n0_
  have HO611 := n1_
  have HO616 := n2_
  have BK601 := n3_
  have BK602 := n4_
  have BK603 := n5_
  have BK613 := n6_
  have BK620 := n7_
  have HB := n8_
  clear n0_ n1_ n2_ n3_ n4_ n5_ n6_ n7_ n8_
  replace HO606 := Aside0.mk (Kd.R_drew HO606.out)
  replace HO611 := Aside0.mk (Kd.R_drew HO611.out)
  replace HO616 := Aside0.mk (Kd.R_drew HO616.out)
  replace BK601 := Aside0.mk (blk_drew BK601.out)
  replace BK602 := Aside0.mk (blk_drew BK602.out)
  replace BK603 := Aside0.mk (blk_drew BK603.out)
  replace BK613 := Aside0.mk (blk_drew BK613.out)
  replace BK620 := Aside0.mk (blk_drew BK620.out)
  replace HB := Aside0.mk (below_drew1 HB.out)
  refine start_ (n := 8) (S := fun w' => w'.cell? ⟨gb613, 0, none⟩ = some (.slice Ao29 t614.length co29) ∧ w'.cell? ⟨gb613, 1, none⟩ = some (.int .i64 t617) ∧ w'.cell? ⟨gb613, 2, none⟩ = some (.string t618) ∧ w'.cell? ⟨gb613, 3, none⟩ = some (.slice Ao23 t609.length co23) ∧ w'.cell? ⟨gb613, 4, none⟩ = some (.int .i64 t612) ∧ w'.cell? ⟨gb602, 0, none⟩ = some (.int .i64 a2_0) ∧ w'.cell? ⟨gb602, 1, none⟩ = some (.string a2_1)) (ds := [7]) (lz_ 8 0) (by kernel_rfl) rfl rfl ⟨bc0_ BK613.out, bc1_ BK613.out, bc2_ BK613.out, bc3_ BK613.out, bc4_ BK613.out, bc0_ BK602.out, bc1_ BK602.out⟩ (fun hHeld => ?_); refine with_tabW spec_l12Commit.tab6 spec_l12Commit.bits6 (fun HT_ HW_ => ?_)
  generalize w36.drew = w37 at HO606 HO611 HO616 BK601 BK602 BK603 BK613 BK620 HB hHeld ⊢
  refine pt_ 0 30 1 ?_
  refine pt_ 3 33 9 ?_
  refine tt_ 1 31 11 ?_
  refine tt_ 2 32 15 ?_
  refine one_ (i := 4) (N := some 34) (lz_ 8 31) rfl rfl (one_of HT_.out (by kernel_rfl)) (by decide) (fun K hK => ?_)
  refine gf_ Try.func122 (spec_l12Put.calls k a2_0 a2_1 _ _ l3 t621 _ (cb_ HR3 HB) HC3.out A8.out) ?_
  rintro e w38 ⟨v622, rfl, ho0, hb⟩
  refine ⟨_, rfl, ?_⟩
  replace HO606 := rb_ HO606 hb
  replace HO616 := rb_ HO616 hb
  have HO623 := Aside0.mk (Kd.R_lower (Kd.R_new' ho0 (lt_ HO611)) (sz_ HB))
  replace HO611 := re_ HO611 ho0 hb
  replace BK601 := kl_ BK601 hb
  replace BK602 := kl_ BK602 hb
  replace BK603 := kl_ BK603 hb
  replace BK613 := kl_ BK613 hb
  replace BK620 := kl_ BK620 hb
  replace HB := ss_ HB hb
  clear hb ho0
  obtain ⟨Ao40, co40, eo40⟩ := Kd.R_slice HO623.out
  (first | subst eo40 | (injection eo40 with f1_ f2_ f3_; have f4_ := f1_.symm; have f5_ := f3_.symm; clear f1_ f2_ f3_; subst f4_; subst f5_))
  refine hK.out _ _ ⟨bc0_ BK613.out, bc1_ BK613.out, bc2_ BK613.out, bc3_ BK613.out, bc4_ BK613.out, bc0_ BK602.out, bc1_ BK602.out⟩ (fun hHeld => ?_)
  clear hK K
  refine no_ 34 ?_
  refine one_ (i := 5) (N := some 35) (lz_ 8 63) rfl rfl (one_of HT_.out (by kernel_rfl)) (by decide) (fun K hK => ?_)
  refine Kd.R_append_rows_step (Kd.int .u8) (w0 := w) w.heap.size (by rfl) (.tmp 31) (.tmp 34) 22 5 (.int .u8 0) 1 rfl Try.underlying22 info5 rfl (by decide) (by omega) (.slice Ao23 t609.length co23) t609 t621 _ _ _ (fun k_ => some k_ ≠ (.slice Ao40 t621.length co40 : Value).ownBlock) (fun _ => False) rfl rfl ?aO ?aR (fun _ _ h => h) (fun _ h => h.elim) ?aF ?aB ?aS ?aL ?_
  (case aR => repeat (first | exact (Kd.R_reads' HO623.out).2.2 | (with_reducible refine Kd.C_alloc ?_ _) | (with_reducible refine Kd.C_drewN ?_ _) | (with_reducible refine Kd.C_drew ?_)))
  (case aB => exact (bw_ HB))
  (case aF => exact (fun k_ hk => Kd.fresh' (lt_ HO623) k_ hk))
  (case aO => exact (kr_ (Kd.R_mono HO611.out (fun _ hk => hk.2))))
  (case aS => exact (sz_ HB))
  (case aL => have := LMc9.out; omega)
  intro v625 w39 ho hb hg hat
  rw [← Ny624.out] at ho
  replace BK601 := kg_ BK601 HO611 hg
  replace BK602 := kg_ BK602 HO611 hg
  replace BK603 := kg_ BK603 HO611 hg
  replace HO606 := Aside0.mk (Kd.R_over' (kr_ HO606.out) (Kd.R_typed (kr_ HO611.out)) (by decide) hg)
  replace BK613 := kg_ BK613 HO611 hg
  replace HO616 := Aside0.mk (Kd.R_over' (kr_ HO616.out) (Kd.R_typed (kr_ HO611.out)) (by decide) hg)
  replace BK620 := kg_ BK620 HO611 hg
  replace HO623 := Aside0.mk (Kd.R_after (ok := (fun _ => True)) (kr_ HO623.out) hg hat)
  replace HB := Aside0.mk hb
  have HO626 := Aside0.mk ho
  clear HO611
  clear ho hb hg hat
  obtain ⟨Ao41, co41, eo41⟩ := Kd.R_slice HO626.out
  (first | subst eo41 | (injection eo41 with f1_ f2_ f3_; have f4_ := f1_.symm; have f5_ := f3_.symm; clear f1_ f2_ f3_; subst f4_; subst f5_))
  refine hK.out _ _ ⟨bc0_ BK613.out, bc1_ BK613.out, bc2_ BK613.out, bc3_ BK613.out, bc4_ BK613.out, bc0_ BK602.out, bc1_ BK602.out⟩ (fun hHeld => ?_)
  clear hK K
  refine no_ 35 ?_
  refine pt_ 6 36 127 ?_
  refine last_ (i := 7) (N := none) (lz_ 8 255) rfl rfl (one_of HT_.out (by kernel_rfl)) (by decide) (fun K hK => ?_)
  have hs42 := bc3_ BK613.out
  have hfs42 := blk_frozen BK613.out 3
  have hns42_0 := NB601_613.out
  have hns42_1 := NB602_613.out
  have hns42_2 := NB603_613.out
  have hns42_4 := NB620_613.out
  have hms42_0 := NB613_601.out
  have hms42_1 := NB613_602.out
  have hms42_2 := NB613_603.out
  have hms42_4 := NB613_620.out
  refine skip_ (w1 := ?_) (by rfl) rfl ?_ ?_
  rotate_left
  ·go_simp
   rfl
  refine hK.out _ _ ?_
  clear hK K
  refine done_ (done_of HT_.out (by kernel_rfl)) ?_
  have hz43 := cz5_ BK613
  have hz44 := cz5_ BK603
  try go_wp2
  refine bodyPost_ret (results_ct rfl _ _ gb603 37 #[.slice Ao29 t614.length co29, .int .i64 t617, .string t618, .slice Ao41 y624.length co41, .int .i64 t612] (0, 0) _ rfl (by exact kq_ BK603) Try.underlying37 rfl (by kernel_rfl)) rfl ?_
  exact ⟨_, _, e2_, by (with_reducible repeat (first | apply Kd.R_alloc | apply Kd.R_drewN | apply Kd.R_drew)); exact Kd.R_mono (Kd.R_far (p := ⟨gb603, 4, none⟩) (Kd.R_far (p := ⟨gb603, 3, none⟩) (Kd.R_far (p := ⟨gb603, 2, none⟩) (Kd.R_far (p := ⟨gb603, 1, none⟩) (Kd.R_far (p := ⟨gb603, 0, none⟩) (Kd.R_far (p := ⟨gb613, 3, none⟩) (Kd.R_types (Kd.R_types HO616.out BK613.out (by decide)) BK603.out (by decide)) (fun _ hk => hk.1.2) (.slice Ao41 y624.length co41)) (fun _ hk => hk.2) (.slice Ao29 t614.length co29)) (fun _ hk => hk.2) (.int .i64 t617)) (fun _ hk => hk.2) (.string t618)) (fun _ hk => hk.2) (.slice Ao41 y624.length co41)) (fun _ hk => hk.2) (.int .i64 t612)) (fun _ hk => trivial), by (with_reducible repeat (first | apply Kd.R_alloc | apply Kd.R_drewN | apply Kd.R_drew)); exact Kd.R_mono (Kd.R_far (p := ⟨gb603, 4, none⟩) (Kd.R_far (p := ⟨gb603, 3, none⟩) (Kd.R_far (p := ⟨gb603, 2, none⟩) (Kd.R_far (p := ⟨gb603, 1, none⟩) (Kd.R_far (p := ⟨gb603, 0, none⟩) (Kd.R_far (p := ⟨gb613, 3, none⟩) (Kd.R_types (Kd.R_types HO626.out BK613.out (by decide)) BK603.out (by decide)) (fun _ hk => hk.1.2) (.slice Ao41 y624.length co41)) (fun _ hk => hk.2) (.slice Ao29 t614.length co29)) (fun _ hk => hk.2) (.int .i64 t617)) (fun _ hk => hk.2) (.string t618)) (fun _ hk => hk.2) (.slice Ao41 y624.length co41)) (fun _ hk => hk.2) (.int .i64 t612)) (fun _ hk => trivial), bw_ HB⟩
 ·have c7b0 : (t619 == 0) = false := beq_eq_false_iff_ne.mpr c7
  have c7b1 : (t619 != 0) = true := bne_iff_ne.mpr c7
  replace H := so6_ H; obtain ⟨rfl, rfl, rfl, rfl, rfl, rfl⟩ := H
  go_enter Try.func97, Try.ntmps97
  go_wp2_with (first | ((with_reducible refine gd_ 4 ?_); refine bx_ 4 37 #[.slice A0_0 l0_0.length c0_0, .int .i64 a0_1, .string a0_2, .slice A0_3 l0_3.length c0_3, .int .i64 a0_4] ?_; intro gb601 hg w45 hbox hb; have BK601 := Aside0.mk hbox; have GW601 := gg_ hg HB; have GE601 := GW601; replace HB := ss_ HB hb; clear hb hbox hg) | ((with_reducible refine gd_ 6 ?_); refine bx_ 6 28 #[.int .i64 a2_0, .string a2_1] ?_; intro gb602 hg w46 hbox hb; have BK602 := Aside0.mk hbox; have GW602 := gg_ hg HB; have GE602 := GW602; replace HB := ss_ HB hb; have NB601_602 := nla_ hg BK601; have NB602_601 := nga_ hg BK601; replace BK601 := kl_ BK601 hb; clear hb hbox hg) | ((with_reducible refine gd_ 8 ?_); refine bx_ 8 37 #[.slice none 0 0, .int .i64 0, .string (⟨#[]⟩ : ByteArray), .slice none 0 0, .int .i64 0] ?_; intro gb603 hg w47 hbox hb; have BK603 := Aside0.mk hbox; have GW603 := gg_ hg HB; have GE603 := GW603; replace HB := ss_ HB hb; have NB601_603 := nla_ hg BK601; have NB603_601 := nga_ hg BK601; replace BK601 := kl_ BK601 hb; have NB602_603 := nla_ hg BK602; have NB603_602 := nga_ hg BK602; replace BK602 := kl_ BK602 hb; clear hb hbox hg; have hnb48 := NB601_602.out; have hnc48 := NB602_601.out; have hnb49 := NB601_603.out; have hnc49 := NB603_601.out; have hz50 := cz5_ BK601) | ((with_reducible refine gq_ 87 14 ?_); refine gc_ 14 Try.func87 (spec_l12Copy.calls _ _ l0_0 a0_1 a0_2 _ _ l0_3 a0_4 t604 t607 t608 t609 t612 _ (cb_ HR0_0 HB) HC0_0.out (cb_ HR0_3 HB) HC0_3.out A5.out) ?_; rintro e w51 ⟨v605, v610, rfl, ho0, ho1, hb⟩; refine ⟨_, rfl, ?_⟩; have HO606 := Aside0.mk (Kd.R_lower ho0 (sz_ HB)); have HO611 := Aside0.mk (Kd.R_lower ho1 (sz_ HB)); replace BK601 := kl_ BK601 hb; replace BK602 := kl_ BK602 hb; replace BK603 := kl_ BK603 hb; replace HB := ss_ HB hb; clear hb ho0 ho1) | ((with_reducible refine gd_ 10 ?_); refine bx_ 10 37 #[.slice none 0 0, .int .i64 0, .string (⟨#[]⟩ : ByteArray), .slice none 0 0, .int .i64 0] ?_; intro gb613 hg w52 hbox hb; replace HO606 := rb_ HO606 hb; replace HO611 := rb_ HO611 hb; have BK613 := Aside0.mk hbox; have GW613 := gg_ hg HB; have GE613 := GW613; replace HB := ss_ HB hb; have NB601_613 := nla_ hg BK601; have NB613_601 := nga_ hg BK601; replace BK601 := kl_ BK601 hb; have NB602_613 := nla_ hg BK602; have NB613_602 := nga_ hg BK602; replace BK602 := kl_ BK602 hb; have NB603_613 := Aside0.mk ((by rw [hg]; exact Nat.ne_of_lt (blk_lt (kb_ BK603.out)) : gb603 ≠ gb613)); have NB613_603 := Aside0.mk ((by rw [hg]; exact Nat.ne_of_gt (blk_lt (kb_ BK603.out)) : gb613 ≠ gb603)); replace BK603 := kl_ BK603 hb; clear hb hbox hg; obtain ⟨Ao53, co53, eo53⟩ := Kd.R_slice HO606.out; subst eo53; have hnb54 := NB613_601.out; have hnc54 := NB601_613.out; have hnb55 := NB613_602.out; have hnc55 := NB602_613.out; have hnb56 := NB613_603.out; have hnc56 := NB603_613.out; have hz57 := cz5_ BK613; obtain ⟨Ao58, co58, eo58⟩ := Kd.R_slice HO611.out; subst eo58; have hz59 := cz5_ BK601; have hnb60 := NB602_603.out; have hnc60 := NB603_602.out; have hz61 := cz2_ BK602) | ((with_reducible refine gq_ 21 21 ?_); refine gc_ 21 Try.func21 (spec_Extend.calls k _ _ l0_0 a0_1 a0_2 _ _ l1 a2_0 a2_1 _ _ l3 t614 t617 t618 t619 _ (Kd.C_below HR0_0.out (bw_ HB)) HC0_0.out (Kd.C_below HR1.out (bw_ HB)) HC1.out (Kd.C_below HR3.out (bw_ HB)) HC3.out A6.out) ?_; rintro e w62 ⟨v615, rfl, ho0, hb⟩; refine ⟨_, rfl, ?_⟩; replace HO611 := rbf_ HO611 BK613 hb; have HO616 := Aside0.mk (Kd.R_lower (Kd.R_new' ho0 (lf_ HO606 BK613)) (sz_ HB)); replace HO606 := ref_ HO606 BK613 ho0 hb; replace BK601 := kp_ BK601 hb; replace BK602 := kp_ BK602 hb; replace BK603 := kp_ BK603 hb; replace BK613 := kp_ BK613 hb; replace HB := ss_ HB hb; clear hb ho0) | ((with_reducible refine gd_ 11 ?_); refine bx_ 11 31 #[.slice none 0 0, .int .i64 0, .string (⟨#[]⟩ : ByteArray)] ?_; intro gb620 hg w63 hbox hb; replace HO606 := rb_ HO606 hb; replace HO611 := rb_ HO611 hb; replace HO616 := rb_ HO616 hb; have BK620 := Aside0.mk hbox; have GW620 := gg_ hg HB; have GE620 := GW620; replace HB := ss_ HB hb; have NB601_620 := nla_ hg BK601; have NB620_601 := nga_ hg BK601; replace BK601 := kl_ BK601 hb; have NB602_620 := nla_ hg BK602; have NB620_602 := nga_ hg BK602; replace BK602 := kl_ BK602 hb; have NB603_620 := Aside0.mk ((by rw [hg]; exact Nat.ne_of_lt (blk_lt (kb_ BK603.out)) : gb603 ≠ gb620)); have NB620_603 := Aside0.mk ((by rw [hg]; exact Nat.ne_of_gt (blk_lt (kb_ BK603.out)) : gb620 ≠ gb603)); replace BK603 := kl_ BK603 hb; have NB613_620 := nla_ hg BK613; have NB620_613 := nga_ hg BK613; replace BK613 := kl_ BK613 hb; clear hb hbox hg; obtain ⟨Ao64, co64, eo64⟩ := Kd.R_slice HO616.out; subst eo64; have hnb65 := NB620_601.out; have hnc65 := NB601_620.out; have hnb66 := NB620_602.out; have hnc66 := NB602_620.out; have hnb67 := NB620_603.out; have hnc67 := NB603_620.out; have hnb68 := NB620_613.out; have hnc68 := NB613_620.out; have hz69 := cz3_ BK620; have hz70 := cz5_ BK613; have hz71 := cz5_ BK603))
  refine bodyPost_ret (results_ct rfl _ _ gb603 37 #[.slice Ao53 t604.length co53, .int .i64 t607, .string t608, .slice Ao58 t609.length co58, .int .i64 t612] (0, 0) _ rfl (by exact kq_ BK603) Try.underlying37 rfl (by kernel_rfl)) rfl ?_
  exact ⟨_, _, e2_, by (with_reducible repeat (first | apply Kd.R_alloc | apply Kd.R_drewN | apply Kd.R_drew)); exact Kd.R_mono (Kd.R_far (p := ⟨gb603, 4, none⟩) (Kd.R_far (p := ⟨gb603, 3, none⟩) (Kd.R_far (p := ⟨gb603, 2, none⟩) (Kd.R_far (p := ⟨gb603, 1, none⟩) (Kd.R_far (p := ⟨gb603, 0, none⟩) (Kd.R_far (p := ⟨gb620, 2, none⟩) (Kd.R_far (p := ⟨gb620, 1, none⟩) (Kd.R_far (p := ⟨gb620, 0, none⟩) (Kd.R_types (Kd.R_types HO606.out BK620.out (by decide)) BK603.out (by decide)) (fun _ hk => hk.1.2) (.slice Ao64 t614.length co64)) (fun _ hk => hk.1.2) (.int .i64 t617)) (fun _ hk => hk.1.2) (.string t618)) (fun _ hk => hk.2) (.slice Ao53 t604.length co53)) (fun _ hk => hk.2) (.int .i64 t607)) (fun _ hk => hk.2) (.string t608)) (fun _ hk => hk.2) (.slice Ao58 t609.length co58)) (fun _ hk => hk.2) (.int .i64 t612)) (fun _ hk => trivial), by (with_reducible repeat (first | apply Kd.R_alloc | apply Kd.R_drewN | apply Kd.R_drew)); exact Kd.R_mono (Kd.R_far (p := ⟨gb603, 4, none⟩) (Kd.R_far (p := ⟨gb603, 3, none⟩) (Kd.R_far (p := ⟨gb603, 2, none⟩) (Kd.R_far (p := ⟨gb603, 1, none⟩) (Kd.R_far (p := ⟨gb603, 0, none⟩) (Kd.R_far (p := ⟨gb620, 2, none⟩) (Kd.R_far (p := ⟨gb620, 1, none⟩) (Kd.R_far (p := ⟨gb620, 0, none⟩) (Kd.R_types (Kd.R_types HO611.out BK620.out (by decide)) BK603.out (by decide)) (fun _ hk => hk.1.2) (.slice Ao64 t614.length co64)) (fun _ hk => hk.1.2) (.int .i64 t617)) (fun _ hk => hk.1.2) (.string t618)) (fun _ hk => hk.2) (.slice Ao53 t604.length co53)) (fun _ hk => hk.2) (.int .i64 t607)) (fun _ hk => hk.2) (.string t608)) (fun _ hk => hk.2) (.slice Ao58 t609.length co58)) (fun _ hk => hk.2) (.int .i64 t612)) (fun _ hk => trivial), bw_ HB⟩
end Go.Proofs.Ytjnnglphdaemaaa.Q
end

section
/- The reference's OpenStore: the commits of bytes, one behind the other. -/
namespace Go.Proofs.Ytjnnglphdaemaaa.Q
open Go.RowKit Go.Proofs.YtjnnglphdaemaaaW.PrintWords Go.Proofs.YtjnnglphdaemaaaW.PrintLast Go.Proofs.YtjnnglphdaemaaaW.PrintMore
set_option linter.unusedVariables false
set_option linter.unusedSimpArgs false
def spec_OpenStore.l0 : Nat → List S28 → List Int → Int → Int → List ByteArray → Int → ByteArray → List Int → Int → Option (List ByteArray × Int × ByteArray × List Int × Int × Int)
 | 0, _, _, _, _, _, _, _, _, _ => none
 | k + 1, t, b, cnt, at_, l, n, s, m, u => if at_ < (b.length : Int) then ((spec_GetCommit.f k b at_).bind fun g => (if g.2.2.2.2 = true then ((spec_l12Commit.f k l n s m u t g.1 g.2.1 g.2.2.1).bind fun r => (if r.2.2.2.2.2 = 0 then (spec_OpenStore.l0 k t b (wrap64 (cnt + 1)) g.2.2.2.1 r.1 r.2.1 r.2.2.1 r.2.2.2.1 r.2.2.2.2.1) else (some (l, n, s, m, u, cnt)))) else (some (l, n, s, m, u, cnt)))) else (some (l, n, s, m, u, cnt))
def spec_OpenStore.f (k : Nat) (t : List S28) (b : List Int) : Option (List ByteArray × Int × ByteArray × List Int × Int × Int) :=
 (spec_StoreNew.f k).bind fun q => ((spec_OpenStore.l0 k t (if (b.length : Int) > 60000 then b.take (60000 : Int).toNat else b) 0 0 q.1 q.2.1 q.2.2.1 q.2.2.2.1 q.2.2.2.2).bind fun r => some (r.1, r.2.1, r.2.2.1, r.2.2.2.1, (r.2.2.2.1.length : Int), r.2.2.2.2.2))
end Go.Proofs.Ytjnnglphdaemaaa.Q
end

section
/- OpenStore, the program's and the reference's: what both come to. -/
namespace Go.Proofs.Ytjnnglphdaemaaa.Q
open Go.RowKit Go.Proofs.Ytjnnglphdaemaaa.B Go.Proofs.YtjnnglphdaemaaaW.PrintWords Go.Proofs.YtjnnglphdaemaaaW.PrintMore
set_option linter.unusedVariables false
set_option linter.unusedSimpArgs false
def Good (t : List IHead) (l : List ByteArray) (N : Nat) (s : ByteArray) (x : List ByteArray) : Prop := headOk (N : Int) s = true ∧ hasHead t (N : Int) s = true ∧ isHead (l ++ x) (N : Int) s = true ∧ N = l.length + x.length
inductive Opened (t : List IHead) : List ByteArray → List Int → List ByteArray → List Int → Nat → Prop
 | stop {l : List ByteArray} {b : List Int} (h : ∀ N s x r, b = commitB N s x ++ r → headOk (N : Int) s = true → 1 ≤ x.length → x.length ≤ 200 → (∀ y ∈ x, y.size ≤ 1000000000) → ¬ Good t l N s x) : Opened t l b l [] 0
 | step {l : List ByteArray} {r : List Int} {L : List ByteArray} {m : List Int} {c N : Nat} {s : ByteArray} {x : List ByteArray} (hk : headOk (N : Int) s = true) (h1 : 1 ≤ x.length) (h2 : x.length ≤ 200) (hs : ∀ y ∈ x, y.size ≤ 1000000000) (hg : Good t l N s x) (k : Opened t (l ++ x) r L m c) : Opened t l (commitB N s x ++ r) L (commitB N s x ++ m) (c + 1)
theorem ext_good {t : List IHead} {l : List ByteArray} {n : Int} {z : ByteArray} {N : Nat} {s : ByteArray} {x : List ByteArray} (h1 : 1 ≤ x.length) (hg : Good t l N s x) : extOf t l n z (N : Int) s x = (l ++ x, (N : Int), s, 0) := by
 obtain ⟨g1, g2, g3, g4⟩ := hg
 unfold extOf
 have e : ((N : Int) == ((l.length + x.length : Nat) : Int)) = true := by rw [g4]; exact beq_self_eq_true _
 rw [if_pos (by rw [g1, e]; rfl), if_pos g2, if_neg (by omega), if_pos g3]
theorem ext_bad {t : List IHead} {l : List ByteArray} (n : Int) (z : ByteArray) {N : Nat} {s : ByteArray} {x : List ByteArray} (hg : ¬ Good t l N s x) : ∃ c, extOf t l n z (N : Int) s x = (l, n, z, c) ∧ c ≠ 0 := by
 unfold extOf
 by_cases h0 : (headOk (N : Int) s && ((N : Int) == ((l.length + x.length : Nat) : Int))) = true
 ·rw [if_pos h0]
  by_cases h1 : hasHead t (N : Int) s = true
  ·rw [if_pos h1]
   by_cases h2 : x.length = 0
   ·rw [if_pos h2]
    exact ⟨3, rfl, by decide⟩
   ·rw [if_neg h2]
    by_cases h3 : isHead (l ++ x) (N : Int) s = true
    ·rw [Bool.and_eq_true] at h0
     exact absurd ⟨h0.1, h1, h3, by have := eq_of_beq h0.2; omega⟩ hg
    ·rw [if_neg h3]
     exact ⟨4, rfl, by decide⟩
  ·rw [if_neg h1]
   exact ⟨2, rfl, by decide⟩
 ·rw [if_neg h0]
  exact ⟨1, rfl, by decide⟩
theorem headOk_is {n : Int} {s : ByteArray} (h : headOk n s = true) : s.size = 32 ∧ 0 ≤ n ∧ n ≤ 200 := by
 unfold headOk at h
 by_cases hc : 0 ≤ n ∧ n ≤ 200
 ·rw [if_pos hc] at h
  have := eq_of_beq h
  omega
 ·rw [if_neg hc] at h
  cases h
theorem logOk_head {l : List ByteArray} (h : l.length ≤ 200) : logOk l (headOf l).1 (headOf l).2 = true := by
 unfold logOk
 rw [if_pos (by omega)]
 simp
theorem isHead_is {l : List ByteArray} {a : Int} {z : ByteArray} (h : isHead l a z = true) : a = (headOf l).1 ∧ z = (headOf l).2 := by
 unfold isHead at h
 rw [Bool.and_eq_true] at h
 exact ⟨eq_of_beq h.1, bytes_ext (eq_of_beq h.2)⟩
theorem commit_pos (N : Nat) (s : ByteArray) (x : List ByteArray) : 0 < (commitB N s x).length := by
 have := commitB_length N s x
 omega
theorem take_more {b : List Int} {a : Nat} {c r : List Int} (ha : a ≤ b.length) (h : b.drop a = c ++ r) : b.take a ++ c = b.take (a + c.length) ∧ r = b.drop (a + c.length) := by
 have e : b = b.take a ++ (c ++ r) := by rw [← h, List.take_append_drop]
 have hl : (b.take a).length = a := by rw [List.length_take]; omega
 constructor
 ·have : b.take (a + c.length) = (b.take a ++ (c ++ r)).take (a + c.length) := by rw [← e]
  rw [this, List.take_append, hl, List.take_take, Nat.min_eq_right (by omega), show a + c.length - a = c.length by omega]
  simp
 ·have : b.drop (a + c.length) = (b.drop a).drop c.length := by rw [List.drop_drop]
  rw [this, h]
  simp
theorem opened_ev (t : List IHead) (ht : t.length ≤ 9223372036854775807) (b : List Int) (hb : InB b) (hl : b.length ≤ 60000) {l : List ByteArray} {bs : List Int} {L : List ByteArray} {m : List Int} {c : Nat} (o : Opened t l bs L m c) :
  ∀ (a : Nat) (cnt : Int), bs = b.drop a → a ≤ b.length → l.length ≤ 200 → (∀ x ∈ l, x.size ≤ bigB) → 0 ≤ cnt → cnt + ((b.length - a : Nat) : Int) ≤ 60000 →
  Ev (fun k => spec_OpenStore.l0 k t b cnt (a : Int) l (headOf l).1 (headOf l).2 (b.take a) 0) (L, (headOf L).1, (headOf L).2, b.take a ++ m, 0, cnt + (c : Int)) ∧
  Ev (fun k => impl_OpenStore.l0 k t b 0 cnt (a : Int) l (headOf l).1 (headOf l).2 (b.take a)) (L, (headOf L).1, (headOf L).2, b.take a ++ m, cnt + (c : Int)) ∧
  L.length ≤ 200 ∧ (∀ x ∈ L, x.size ≤ bigB) ∧ m.length + a ≤ b.length ∧ c ≤ b.length - a := by
 induction o with
 | @stop l bs h =>
  intro a cnt e ha h1 h2 h3 h4
  refine ⟨?_, ?_, h1, h2, by simp; omega, by omega⟩
  all_goals rw [List.append_nil, show cnt + ((0 : Nat) : Int) = cnt by omega]
  ·refine Ev.step (fun k => by simp only [spec_OpenStore.l0]; rfl) ?_
   by_cases hlt : (a : Int) < (b.length : Int)
   ·obtain ⟨n, s, x, nx, ok, e1, e2, hx⟩ := getCommit_both b hb (by omega) (a : Int) (by omega) (by omega)
    obtain ⟨n', s', x', nx', ok', e3, _, c1, c2⟩ := getCommitI b hb (by omega) (a : Int) (by omega) (by omega)
    have hu := ev_uniq e3 e2
    simp only [Prod.mk.injEq] at hu
    obtain ⟨rfl, rfl, rfl, rfl, rfl⟩ := hu
    refine Ev.pos hlt (Ev.bind e1 ?_)
    cases hok : ok' with
    | false => exact Ev.neg (by simp) (Ev.now _)
    | true =>
     obtain ⟨a', N, g1, rfl, g2, g3, g4, g5, g6⟩ := c1 hok
     have ea : a' = a := by omega
     subst ea
     have hsm := commit_small (by omega) g4
     have hbad := h N s' x' _ (e.trans g4) g2 g3 hx hsm
     obtain ⟨q, hq, hq0⟩ := ext_bad (headOf l).1 (headOf l).2 hbad
     have htx : ∀ y ∈ x', y.size ≤ bigB := fun y hy => by
      have w1 := commitB_length N s' x'
      have w2 := bodyB_ge N s' x'
      have w3 := total_mem hy
      unfold bigB
      omega
     refine Ev.pos rfl ?_
     have hE := spec_Extend_ev t l (headOf l).1 (headOf l).2 (N : Int) s' x' ht (sizes_app h2 htx) (by omega)
     unfold extendOf at hE
     rw [if_pos (logOk_head h1), hq] at hE
     have hC : Ev (fun k => spec_l12Commit.f k l (headOf l).1 (headOf l).2 (b.take a') 0 t (N : Int) s' x') (l, (headOf l).1, (headOf l).2, b.take a', 0, q) := by
      unfold spec_l12Commit.f
      rw [spec_l12Copy_eq l _ _ _ _ (by omega) (by rw [List.length_take]; omega)]
      simp only [Option.bind_some]
      exact Ev.bind hE (Ev.neg hq0 (Ev.now _))
     exact Ev.bind hC (Ev.neg hq0 (Ev.now _))
   ·exact Ev.neg hlt (Ev.now _)
  ·refine Ev.step (fun k => by simp only [impl_OpenStore.l0]; rfl) ?_
   by_cases hlt : (a : Int) < (b.length : Int)
   ·obtain ⟨n', s', x', nx', ok', e3, hx, c1, c2⟩ := getCommitI b hb (by omega) (a : Int) (by omega) (by omega)
    refine Ev.pos hlt (Ev.bind e3 ?_)
    cases hok : ok' with
    | false => exact Ev.neg (by simp) (Ev.now _)
    | true =>
     obtain ⟨a', N, g1, rfl, g2, g3, g4, g5, g6⟩ := c1 hok
     have ea : a' = a := by omega
     subst ea
     have hsm := commit_small (by omega) g4
     have hbad := h N s' x' _ (e.trans g4) g2 g3 hx hsm
     obtain ⟨q, hq, hq0⟩ := ext_bad (headOf l).1 (headOf l).2 hbad
     have w1 := commitB_length N s' x'
     have w2 := bodyB_ge N s' x'
     have htx : ∀ y ∈ x', y.size ≤ bigB := fun y hy => by
      have w3 := total_mem hy
      unfold bigB
      omega
     refine Ev.pos rfl ?_
     have hP := PutCommit_val (N : Int) s' x' (by omega) (by omega) hsm
     rw [if_pos ⟨g2, g3, hx⟩, Int.toNat_natCast] at hP
     have hE := impl_extend_ev t l (headOf l).1 (headOf l).2 (N : Int) s' x' ht (sizes_app h2 htx) (by omega)
     rw [hq] at hE
     have hlt2 : (b.take a').length = a' := by rw [List.length_take]; omega
     have hC : Ev (fun k => impl_Store_commit.f k l (headOf l).1 (headOf l).2 (b.take a') 0 t (N : Int) s' x') (l, (headOf l).1, (headOf l).2, b.take a', q) := by
      unfold impl_Store_commit.f
      refine Ev.bind hP (Ev.neg ?_ (Ev.bind hE (Ev.neg hq0 (Ev.now _))))
      rw [hlt2, w64 (by omega) (by omega)]
      omega
     exact Ev.bind hC (Ev.neg hq0 (Ev.now _))
   ·exact Ev.neg hlt (Ev.now _)
 | @step l r L m c N s x hk hx1 hx2 hsm hg o ih =>
  intro a cnt e ha h1 h2 h3 h4
  obtain ⟨e1, e2⟩ := take_more ha e.symm
  have hlen := commit_pos N s x
  have hdl : (b.drop a).length = b.length - a := List.length_drop
  have hcl : (commitB N s x).length ≤ b.length - a := by
   rw [← hdl, ← e, List.length_append]
   omega
  have w1 := commitB_length N s x
  have w2 := bodyB_ge N s x
  have htx : ∀ y ∈ x, y.size ≤ bigB := fun y hy => by
   have w3 := total_mem hy
   unfold bigB
   omega
  obtain ⟨hh1, hh2⟩ := isHead_is hg.2.2.1
  have hfew : (l ++ x).length ≤ 200 := by
   have := hg.2.2.2
   have hk' := hk
   unfold headOk at hk'
   rw [List.length_append]
   by_cases hc : (0 : Int) ≤ (N : Int) ∧ (N : Int) ≤ 200
   ·omega
   ·rw [if_neg hc] at hk'
    cases hk'
  obtain ⟨i1, i2, i3, i4, i5, i6⟩ := ih (a + (commitB N s x).length) (cnt + 1) e2 (by omega) hfew (sizes_app h2 htx) (by omega) (by omega)
  rw [← hh1, ← hh2, ← e1, show cnt + 1 + (c : Int) = cnt + ((c + 1 : Nat) : Int) by omega, List.append_assoc] at i1 i2
  have h32 := headOk_is hk
  have hlt : (a : Int) < (b.length : Int) := by omega
  have hlt2 : (b.take a).length = a := by rw [List.length_take]; omega
  have hread : ∃ nx, nx = ((a + (commitB N s x).length : Nat) : Int) ∧ Ev (fun q => spec_GetCommit.f q b (a : Int)) ((N : Int), s, x, nx, true) ∧ Ev (fun q => impl_GetCommit.f q b (a : Int)) ((N : Int), s, x, nx, true) := by
   obtain ⟨n, s', x', nx, ok, f1, f2, hx⟩ := getCommit_both b hb (by omega) (a : Int) (by omega) (by omega)
   obtain ⟨n', s'', x'', nx', ok', f3, _, c1, c2⟩ := getCommitI b hb (by omega) (a : Int) (by omega) (by omega)
   have hu := ev_uniq f3 f2
   simp only [Prod.mk.injEq] at hu
   obtain ⟨rfl, rfl, rfl, rfl, rfl⟩ := hu
   cases hok : ok' with
   | false => exact absurd ((c2 hok).2.2.2.2 a N s x r rfl e.symm hk hx1 hx2 hsm) (by simp)
   | true =>
    obtain ⟨a', N', g1, rfl, g2, g3, g4, g5, g6⟩ := c1 hok
    have ea : a' = a := by omega
    subst ea
    obtain ⟨rfl, rfl, rfl, _⟩ := commitB_inj (e.trans g4)
    rw [hok] at f1 f2
    exact ⟨nx', g5, f1, f2⟩
  obtain ⟨nx, hnx, f1, f2⟩ := hread
  subst hnx
  have w64c : wrap64 (cnt + 1) = cnt + 1 := w64 (by omega) (by omega)
  refine ⟨?_, ?_, i3, i4, by rw [List.length_append]; omega, by omega⟩
  ·have hE := spec_Extend_ev t l (headOf l).1 (headOf l).2 (N : Int) s x ht (sizes_app h2 htx) (by omega)
   unfold extendOf at hE
   rw [if_pos (logOk_head h1), ext_good hx1 hg] at hE
   have hP := l12Put_val N s x (by have := hg.2.2.2; rw [List.length_append] at hfew; omega) (by omega) (by omega) (by omega) hsm
   have hC : Ev (fun k => spec_l12Commit.f k l (headOf l).1 (headOf l).2 (b.take a) 0 t (N : Int) s x) (l ++ x, (N : Int), s, b.take a ++ commitB N s x, 0, 0) := by
    unfold spec_l12Commit.f
    rw [spec_l12Copy_eq l _ _ _ _ (by omega) (by rw [List.length_take]; omega)]
    simp only [Option.bind_some]
    exact Ev.bind hE (Ev.pos rfl (Ev.bind hP (Ev.pos (by rw [hlt2]; omega) (Ev.now _))))
   refine Ev.step (fun k => by simp only [spec_OpenStore.l0]; rfl) ?_
   refine Ev.pos hlt (Ev.bind f1 (Ev.pos rfl (Ev.bind hC (Ev.pos rfl ?_))))
   rw [w64c]
   exact i1
  ·have hP := PutCommit_val (N : Int) s x (by omega) (by omega) hsm
   rw [if_pos ⟨hk, hx1, hx2⟩, Int.toNat_natCast] at hP
   have hE := impl_extend_ev t l (headOf l).1 (headOf l).2 (N : Int) s x ht (sizes_app h2 htx) (by omega)
   rw [ext_good hx1 hg] at hE
   have hC : Ev (fun k => impl_Store_commit.f k l (headOf l).1 (headOf l).2 (b.take a) 0 t (N : Int) s x) (l ++ x, (N : Int), s, b.take a ++ commitB N s x, 0) := by
    unfold impl_Store_commit.f
    refine Ev.bind hP (Ev.neg ?_ (Ev.bind hE (Ev.pos rfl (Ev.pos (by rw [hlt2]; omega) (Ev.now _)))))
    rw [hlt2, w64 (by omega) (by omega)]
    omega
   refine Ev.step (fun k => by simp only [impl_OpenStore.l0]; rfl) ?_
   refine Ev.pos hlt (Ev.bind f2 (Ev.pos rfl (Ev.bind hC (Ev.pos rfl ?_))))
   rw [w64c]
   exact i2
theorem opened_some (t : List IHead) : ∀ (d : Nat) (l : List ByteArray) (b : List Int), b.length ≤ d → ∃ L m c, Opened t l b L m c := by
 intro d
 induction d with
 | zero =>
  intro l b hb
  refine ⟨l, [], 0, .stop (fun N s x r e _ _ _ _ _ => ?_)⟩
  have := commit_pos N s x
  have h2 : b.length = (commitB N s x ++ r).length := by rw [← e]
  rw [List.length_append] at h2
  omega
 | succ d ih =>
  intro l b hb
  by_cases h : ∃ N s x r, b = commitB N s x ++ r ∧ headOk (N : Int) s = true ∧ 1 ≤ x.length ∧ x.length ≤ 200 ∧ (∀ y ∈ x, y.size ≤ 1000000000) ∧ Good t l N s x
  ·obtain ⟨N, s, x, r, rfl, h1, h2, h3, h4, h5⟩ := h
   have := commit_pos N s x
   rw [List.length_append] at hb
   obtain ⟨L, m, c, o⟩ := ih (l ++ x) r (by omega)
   exact ⟨L, _, _, .step h1 h2 h3 h4 h5 o⟩
  ·exact ⟨l, [], 0, .stop (fun N s x r e h1 h2 h3 h4 h5 => h ⟨N, s, x, r, e, h1, h2, h3, h4, h5⟩)⟩
def firstB (b : List Int) : List Int := b.take 60000
theorem openStore_ev (t : List IHead) (ht : t.length ≤ 9223372036854775807) (b : List Int) (hb : InB b) {L : List ByteArray} {m : List Int} {c : Nat} (o : Opened t [] (firstB b) L m c) :
  Ev (fun k => spec_OpenStore.f k t b) (L, (headOf L).1, (headOf L).2, m, (m.length : Int), (c : Int)) ∧ Ev (fun k => impl_OpenStore.f k t b) (L, (headOf L).1, (headOf L).2, m, (m.length : Int), (c : Int)) ∧ L.length ≤ 200 ∧ (∀ x ∈ L, x.size ≤ bigB) ∧ m.length ≤ 60000 := by
 have hf : (firstB b).length ≤ 60000 := by
  unfold firstB
  rw [List.length_take]
  omega
 have hb2 : InB (firstB b) := fun x hx => hb x (List.mem_of_mem_take hx)
 obtain ⟨e1, e2, e3, e4, e5, e6⟩ := opened_ev t ht (firstB b) hb2 hf o 0 0 rfl (by omega) (by simp) (by simp) (by omega) (by omega)
 simp only [List.take_zero, List.nil_append, Int.zero_add] at e1 e2
 have s1 : (if (b.length : Int) > 60000 then b.take (60000 : Int).toNat else b) = firstB b := by
  unfold firstB
  by_cases h : (b.length : Int) > 60000
  ·rw [if_pos h]
   rfl
  ·rw [if_neg h, List.take_of_length_le (by omega)]
 have s2 : b.take (mn (b.length : Int) 60000).toNat = firstB b := by
  unfold firstB mn
  by_cases h : (60000 : Int) < (b.length : Int)
  ·rw [if_pos h]
   rfl
  ·rw [if_neg h, Int.toNat_natCast, List.take_length, List.take_of_length_le (by omega)]
 refine ⟨?_, ?_, e3, e4, by omega⟩
 ·unfold spec_OpenStore.f
  rw [s1]
  exact Ev.bind spec_StoreNew_ev (Ev.bind e1 (Ev.now _))
 ·unfold impl_OpenStore.f
  rw [s2]
  exact Ev.bind impl_StoreNew_ev (Ev.bind e2 (Ev.now _))
end Go.Proofs.Ytjnnglphdaemaaa.Q
end

section
/- The program's Commit: a copy of a store, committed to where the store is right. -/
namespace Go.Proofs.Ytjnnglphdaemaaa.Q
open Go.RowKit Go.Proofs.YtjnnglphdaemaaaW.PrintWords Go.Proofs.YtjnnglphdaemaaaW.PrintLast Go.Proofs.YtjnnglphdaemaaaW.PrintMore
set_option linter.unusedVariables false
set_option linter.unusedSimpArgs false
end Go.Proofs.Ytjnnglphdaemaaa.Q
end

-- Joined and shortened by a program of this session (wip/tools/shakecopy.py): the words of the print, texts of pp.sh and of mine.
import Derived.Test.YtjnnglphdaemaaaKFnNew4
import Derived.Test.YtjnnglphdaemaaaRows
import Derived.WalkKit
import Derived.ProofKit
import Derived.OpenShut
import Derived.ShutString
import Derived.ChangeOld
import Derived.Below
import Derived.SizedLaws
import Derived.Carry
section
-- Written by a program of this session (wip/tools/pp.sh) over the print of the kit.
namespace Go.Proofs.Ytjnnglphdaemaaa.Q
open Go.RowKit Go.Proofs.YtjnnglphdaemaaaW.PrintWords Go.Proofs.YtjnnglphdaemaaaW.PrintLast Go.Proofs.YtjnnglphdaemaaaW.PrintMore
attribute [local go_sem] max2_int min2_int max_two min_two max_three min_three max_four min_four   -- for this text's walks alone
set_option linter.unusedVariables false
set_option linter.unusedSimpArgs false
def spec_l1Str.f (s0_0 : List Int) (s0_1 : Int) (s0_2 : Int) (l1 : List ByteArray) : Option (ByteArray × Int × Int) := (spec_l1Below.f s0_0 s0_1 s0_2 (l1.length : Int)).bind fun bt601 => (if 0 ≤ bt601.1 then (if bt601.1 < (l1.length : Int) then (some (rdOf ByteArray.empty l1 bt601.1, bt601.2.1, bt601.2.2)) else (none)) else (none))
set_option maxHeartbeats 8000000 in
set_option maxRecDepth 100000 in
theorem spec_l1Str.calls (g : Nat) (s0_0 : List Int) (s0_1 : Int) (s0_2 : Int) (A1 : Option Addr) (c1 : Nat) (l1 : List ByteArray) (r1 : ByteArray) (r2 : Int) (r3 : Int) (w0 w : World) (hI : IsS111 w0 w g s0_0 s0_1 s0_2) (hB : Below w0.heap.size w0 w) (hr1 : Kd.C Kd.string w A1 l1.length l1) (hc1 : l1.length ≤ c1) (hf1 : ∀ ad, A1 = some ad → 0 < l1.length → ad.block ≠ g) (h : spec_l1Str.f s0_0 s0_1 s0_2 l1 = some (r1, r2, r3)) :
  Calls Try.prog 99 #[.pointer (some ⟨g, 0, none⟩), .slice A1 l1.length c1] w fun e w' => e = .returned (.string r1) ∧ IsS111 w0 w' g s0_0 r2 r3 ∧ Below w0.heap.size w0 w' ∧ KeepBut w w' g none := by
 have HR1 := Aside0.mk hr1
 have HC1 := Aside0.mk hc1
 clear hr1 hc1
 have HI0 := Aside0.mk hI
 have HK := Aside0.mk (KeepBut.refl w g none)
 have HL := Aside0.mk hB.size
 clear hI
 have HW0 := Aside0.mk hB.size
 have HB := Aside0.mk hB
 clear hB
 have H : ((spec_l1Below.f s0_0 s0_1 s0_2 (l1.length : Int)).bind fun bt601 => (if 0 ≤ bt601.1 then (if bt601.1 < (l1.length : Int) then (some (rdOf ByteArray.empty l1 bt601.1, bt601.2.1, bt601.2.2)) else (none)) else (none))) = some (r1, r2, r3) := h
 clear h
 replace H := bi_ H; obtain ⟨⟨t601, t602, t603⟩, A3, H⟩ := H
 dsimp only at H
 replace H := ipd_ H; obtain ⟨c4b0, H⟩ := H
 replace H := ipd_ H; obtain ⟨c5b0, H⟩ := H
 replace H := so3_ H; obtain ⟨rfl, rfl, rfl⟩ := H
 go_enter Try.func99, Try.ntmps99
 go_wp2_with (first | ((with_reducible refine gk_ 61 ?_); refine gl_ 9 Try.func61 #[.pointer (some ⟨g, 0, none⟩), .int .i64 (l1.length : Int)] ?_; (with_reducible refine (spec_l1Below.calls g s0_0 s0_1 s0_2 (l1.length : Int) t601 t602 t603 w0 _ ?side1 ?side2 A3.out).mono ?_); (case side1 => repeat (first | (with_reducible first | exact HI0.out | apply IsS111.alloc | apply IsS111.drewN | apply IsS111.drew | apply IsS111.set_1 | apply IsS111.set_2) | exact HI0.out)); (case side2 => repeat (first | (with_reducible first | exact HB.out | apply below_alloc | apply pw_below_drewN | apply below_drew1 | refine below_set ?_ (IsS111.ge HI0.out)) | exact HB.out)); rintro e w6 ⟨rfl, hi, hb, hk⟩; refine ⟨_, rfl, ?_⟩; replace HK := Aside0.mk (KeepBut.trans (by repeat (first | (with_reducible first | exact HK.out | apply KeepBut.set_ | apply keep_drewN | apply keep_drew | apply keep_alloc) | exact HK.out)) hk (.inl rfl)); replace HB := Aside0.mk hb; replace HI0 := Aside0.mk hi; clear hb hk hi; have p604 : 0 ≤ (t601 : Int) := of_decide_eq_true as_; have q604 : t601 < (l1.length : Int) := of_decide_eq_true as_; obtain ⟨ad604, e604, hx604_0⟩ := Kd.at_string HR1.out t601 p604 q604; cases e604; replace hx604_0 := keep_cell HK.out hx604_0 (by first | (rw [add_block]; exact hf1 _ rfl (by omega)) | exact hf1 _ rfl (by omega) | exact hf1 ad604 rfl (by omega)); replace p604 := eq_true p604; replace q604 := eq_true q604))
 go_ret
 exact ⟨e2_, by repeat (first | (with_reducible first | exact HI0.out | apply IsS111.alloc | apply IsS111.drewN | apply IsS111.drew | apply IsS111.set_1 | apply IsS111.set_2) | exact HI0.out), by repeat (first | (with_reducible first | exact HB.out | apply below_alloc | apply pw_below_drewN | apply below_drew1 | refine below_set ?_ (IsS111.ge HI0.out)) | exact HB.out), by repeat (first | (with_reducible first | exact HK.out | apply KeepBut.set_ | apply keep_drewN | apply keep_drew | apply keep_alloc) | exact HK.out)⟩
end Go.Proofs.Ytjnnglphdaemaaa.Q
end

section
/- Drawing out of bytes: what is drawn lies where it should. Plain. -/
namespace Go.Proofs.Ytjnnglphdaemaaa.Q
open Go.RowKit Go.Proofs.Ytjnnglphdaemaaa.B Go.Proofs.YtjnnglphdaemaaaW.PrintWords Go.Proofs.YtjnnglphdaemaaaW.PrintMore
set_option linter.unusedVariables false
set_option linter.unusedSimpArgs false

/-- A drawer: its bytes, and how many of them are drawn. -/
def Drawer (s : List Int) (i : Int) : Prop := 0 ≤ i ∧ i ≤ (s.length : Int) ∧ s.length ≤ 1048576
theorem mask255 (y : Int) : 0 ≤ Go.bits .and .i64 y 255 ∧ Go.bits .and .i64 y 255 ≤ 255 := by
  have h : (BitVec.ofInt 64 y &&& BitVec.ofInt 64 255).toNat ≤ 255 := by
    rw [BitVec.toNat_and]
    exact Nat.le_trans Nat.and_le_right (by decide)
  have e : Go.bits .and .i64 y 255 = IntKind.i64.wrap ((BitVec.ofInt 64 y &&& BitVec.ofInt 64 255).toNat : Int) := rfl
  generalize (BitVec.ofInt 64 y &&& BitVec.ofInt 64 255).toNat = m at h e
  rw [e, wraps63 _ (Int.natCast_nonneg _) (by omega)]
  omega
theorem l1Byte_ok {s : List Int} {i : Int} (h : Int) (hd : Drawer s i) : ∃ b i' h', spec_l1Byte.f s i h = some (b, i', h') ∧ 0 ≤ b ∧ b ≤ 255 ∧ Drawer s i' := by
  obtain ⟨h0, h1, h2⟩ := hd
  unfold spec_l1Byte.f
  by_cases hc : i < (s.length : Int)
  · rw [if_pos hc, if_pos h0]
    exact ⟨_, _, _, rfl, (mask255 _).1, (mask255 _).2, by rw [w64 (by omega) (by omega)]; omega, by rw [w64 (by omega) (by omega)]; omega, h2⟩
  · rw [if_neg hc]
    exact ⟨_, _, _, rfl, (mask255 _).1, (mask255 _).2, h0, h1, h2⟩
theorem l1Below_ok {s : List Int} {i : Int} (h n : Int) (hd : Drawer s i) (hn : 1 ≤ n) (hn2 : n ≤ 4294967296) : ∃ b i' h', spec_l1Below.f s i h n = some (b, i', h') ∧ 0 ≤ b ∧ b < n ∧ Drawer s i' := by
  unfold spec_l1Below.f
  rw [if_neg (by omega)]
  obtain ⟨b, i1, h1, e1, b0, b1, d1⟩ := l1Byte_ok h hd
  by_cases hc : n ≤ 256
  · rw [if_pos hc, e1]
    simp only [Option.bind_some]
    rw [if_neg (by omega)]
    refine ⟨_, _, _, rfl, ?_, ?_, d1⟩
    · rw [Int.tmod_eq_emod_of_nonneg b0]
      exact Int.emod_nonneg _ (by omega)
    · rw [Int.tmod_eq_emod_of_nonneg b0]
      exact Int.emod_lt_of_pos _ (by omega)
  · obtain ⟨b', i2, h2, e2, b0', b1', d2⟩ := l1Byte_ok h1 d1
    obtain ⟨b'', i3, h3, e3, b0'', b1'', d3⟩ := l1Byte_ok h2 d2
    rw [if_neg hc, e1]
    simp only [Option.bind_some]
    rw [e2]
    simp only [Option.bind_some]
    rw [e3]
    simp only [Option.bind_some]
    rw [if_neg (by omega)]
    have e : wrap64 ((wrap64 ((wrap64 (b * 65536)) + (wrap64 (b' * 256)))) + b'') = b * 65536 + b' * 256 + b'' := by
      rw [w64 (x := b * 65536) (by omega) (by omega), w64 (x := b' * 256) (by omega) (by omega), w64 (x := b * 65536 + b' * 256) (by omega) (by omega), w64 (by omega) (by omega)]
    rw [e]
    refine ⟨_, _, _, rfl, ?_, ?_, d3⟩
    · rw [Int.tmod_eq_emod_of_nonneg (by omega)]
      exact Int.emod_nonneg _ (by omega)
    · rw [Int.tmod_eq_emod_of_nonneg (by omega)]
      exact Int.emod_lt_of_pos _ (by omega)
theorem l1Int_ok {s : List Int} {i : Int} (h : Int) (l : List Int) (hd : Drawer s i) (hn : 1 ≤ l.length) (hn2 : l.length ≤ 4294967296) : ∃ x i' h', spec_l1Int.f s i h l = some (x, i', h') ∧ x ∈ l ∧ Drawer s i' := by
  obtain ⟨b, i1, h1, e1, b0, b1, d1⟩ := l1Below_ok h (l.length : Int) hd (by omega) (by omega)
  unfold spec_l1Int.f
  rw [e1]
  simp only [Option.bind_some]
  rw [if_pos b0, if_pos b1]
  obtain ⟨x, hx⟩ := get_some (l := l) (i := b.toNat) (by omega)
  refine ⟨_, _, _, rfl, ?_, d1⟩
  have : rd l b = x := by
    unfold rd
    simp [List.getD_eq_getElem?_getD, hx]
  rw [this]
  exact List.mem_of_getElem? hx
theorem l1Str_ok {s : List Int} {i : Int} (h : Int) (l : List ByteArray) (hd : Drawer s i) (hn : 1 ≤ l.length) (hn2 : l.length ≤ 4294967296) : ∃ x i' h', spec_l1Str.f s i h l = some (x, i', h') ∧ x ∈ l ∧ Drawer s i' := by
  obtain ⟨b, i1, h1, e1, b0, b1, d1⟩ := l1Below_ok h (l.length : Int) hd (by omega) (by omega)
  unfold spec_l1Str.f
  rw [e1]
  simp only [Option.bind_some]
  rw [if_pos b0, if_pos b1]
  obtain ⟨x, hx⟩ := get_some (l := l) (i := b.toNat) (by omega)
  refine ⟨_, _, _, rfl, ?_, d1⟩
  have : rdOf ByteArray.empty l b = x := by
    unfold rdOf
    simp [List.getD_eq_getElem?_getD, hx]
  rw [this]
  exact List.mem_of_getElem? hx
theorem l1New_ev (l : List Int) (hl : l.length ≤ 1048576) : ∃ h, Ev (fun k => spec_l1New.f k l) (l, 0, h) := by
  have main : ∀ (d : Nat) (i : Nat) (x : Int), i + d = l.length → ∃ h, Ev (fun k => spec_l1New.l0 k l x (i : Int)) (l, 0, h) := by
    intro d
    induction d with
    | zero =>
      intro i x hi
      refine ⟨x, Ev.step (f := fun _ => some (l, 0, x)) (fun k => ?_) (Ev.now _)⟩
      simp only [spec_l1New.l0]
      rw [if_neg (by omega)]
    | succ d ih =>
      intro i x hi
      by_cases hc : (i : Int) < 4000
      · obtain ⟨h, e⟩ := ih (i + 1) (Go.bits .and .i64 (wrap64 ((wrap64 ((wrap64 (x * 137)) + (wrap64 (rd l i)))) + 11)) 1073741823) (by omega)
        refine ⟨h, Ev.step (fun k => ?_) e⟩
        simp only [spec_l1New.l0]
        rw [if_pos (by omega), if_pos hc, if_pos (by omega), w64 (x := (i : Int) + 1) (by omega) (by omega)]
        rfl
      · refine ⟨x, Ev.step (f := fun _ => some (l, 0, x)) (fun k => ?_) (Ev.now _)⟩
        simp only [spec_l1New.l0]
        rw [if_pos (by omega), if_neg hc]
  exact main l.length 0 (wrap64 (372372 + (l.length : Int))) (by omega)
theorem Drawer.new {l : List Int} (hl : l.length ≤ 1048576) : Drawer l 0 := ⟨by omega, by omega, hl⟩
end Go.Proofs.Ytjnnglphdaemaaa.Q
end

section
-- Written by a program of this session (wip/tools/pp.sh) over the print of the kit.
namespace Go.Proofs.Ytjnnglphdaemaaa.Q
open Go.RowKit Go.Proofs.YtjnnglphdaemaaaW.PrintWords Go.Proofs.YtjnnglphdaemaaaW.PrintLast Go.Proofs.YtjnnglphdaemaaaW.PrintMore
attribute [local go_sem] max2_int min2_int max_two min_two max_three min_three max_four min_four   -- for this text's walks alone
set_option linter.unusedVariables false
set_option linter.unusedSimpArgs false
def spec_l6List.l0 : Nat → List ByteArray → Int → List Int → Int → Int → Option (List ByteArray × Int × Int)
 | 0, _, _, _, _, _ => none
 | k + 1, x3, x4, x1000, x1001, x1002 => if x4 > 0 then ((spec_l1Str.f x1000 x1001 x1002 (([(⟨#[]⟩ : ByteArray), (⟨#[97]⟩ : ByteArray), (⟨#[98]⟩ : ByteArray), (⟨#[120, 121, 122]⟩ : ByteArray)] : List ByteArray))).bind fun bt613 => (if x3.length < 8796093022208 then (spec_l6List.l0 k (x3 ++ [bt613.1]) (wrap64 (x4 - 1)) x1000 bt613.2.1 bt613.2.2) else (none))) else (some (x3, x1001, x1002))
def spec_l6List.f (k : Nat) (s0_0 : List Int) (s0_1 : Int) (s0_2 : Int) : Option (List ByteArray × Int × Int) := (spec_l1Int.f s0_0 s0_1 s0_2 (([0, 1, 2, 3, 4, 5, 7, 8, 6] : List Int))).bind fun bt607 => (spec_l6List.l0 k (([] : List ByteArray)) bt607.1 s0_0 bt607.2.1 bt607.2.2)
theorem spec_l6List.mono_l : ∀ k, (∀ y0 y1 y2 y3 y4, LeO (spec_l6List.l0 k y0 y1 y2 y3 y4) (spec_l6List.l0 (k + 1) y0 y1 y2 y3 y4))
 | 0 => fun _ _ _ _ _ r h => by simp [spec_l6List.l0] at h
 | k + 1 => by
  have ih0 := spec_l6List.mono_l k
  ·intro y0 y1 y2 y3 y4
   unfold spec_l6List.l0
   repeat' (with_reducible first | exact LeO.refl _ | exact LeO.none _ | apply ih0 | apply LeO.ite | refine LeO.bind ?_ fun _ => ?_)
theorem spec_l6List.mono : ∀ a0 a1 a2 k, LeO (spec_l6List.f k a0 a1 a2) (spec_l6List.f (k + 1) a0 a1 a2) := by
 intro a0 a1 a2 k
 have ih0 := spec_l6List.mono_l k
 unfold spec_l6List.f
 repeat' (with_reducible first | exact LeO.refl _ | exact LeO.none _ | apply ih0 | apply LeO.ite | refine LeO.bind ?_ fun _ => ?_)
set_option maxHeartbeats 8000000 in
set_option maxRecDepth 100000 in
theorem spec_l6List.calls (k : Nat) (g : Nat) (s0_0 : List Int) (s0_1 : Int) (s0_2 : Int) (r1 : List ByteArray) (r2 : Int) (r3 : Int) (w0 w : World) (hI : IsS111 w0 w g s0_0 s0_1 s0_2) (hB : Below w0.heap.size w0 w) (h : spec_l6List.f k s0_0 s0_1 s0_2 = some (r1, r2, r3)) :
  Calls Try.prog 60 #[.pointer (some ⟨g, 0, none⟩)] w fun e w' => ∃ v0_ : Value, e = .returned (v0_) ∧ Kd.R Kd.string 9 w' w.heap.size (fun _ => True) v0_ r1 ∧ IsS111 w0 w' g s0_0 r2 r3 ∧ Below w0.heap.size w0 w' ∧ KeepBut w w' g none := by
 have HI0 := Aside0.mk hI
 have HK := Aside0.mk (KeepBut.refl w g none)
 have HL := Aside0.mk hB.size
 clear hI
 have HW0 := Aside0.mk hB.size
 have HB := Aside0.mk hB
 clear hB
 have H : ((spec_l1Int.f s0_0 s0_1 s0_2 (([0, 1, 2, 3, 4, 5, 7, 8, 6] : List Int))).bind fun bt607 => (spec_l6List.l0 k (([] : List ByteArray)) bt607.1 s0_0 bt607.2.1 bt607.2.2)) = some (r1, r2, r3) := h
 clear h
 obtain ⟨y601, hy601⟩ : ∃ y_ : List ByteArray, y_ = (([] : List ByteArray)) := ⟨_, rfl⟩
 replace H : ((spec_l1Int.f s0_0 s0_1 s0_2 (([0, 1, 2, 3, 4, 5, 7, 8, 6] : List Int))).bind fun bt607 => (spec_l6List.l0 k y601 bt607.1 s0_0 bt607.2.1 bt607.2.2)) = some (r1, r2, r3) := yh_ hy601 H
 have Ny601 := Aside0.mk hy601
 clear hy601
 obtain ⟨y604, hy604⟩ : ∃ y_ : List Int, y_ = (([0, 1, 2, 3, 4, 5, 7, 8, 6] : List Int)) := ⟨_, rfl⟩
 replace H : ((spec_l1Int.f s0_0 s0_1 s0_2 y604).bind fun bt607 => (spec_l6List.l0 k y601 bt607.1 s0_0 bt607.2.1 bt607.2.2)) = some (r1, r2, r3) := yh_ hy604 H
 have Ny604 := Aside0.mk hy604
 clear hy604
 replace H := bi_ H; obtain ⟨⟨t607, t608, t609⟩, A2, H⟩ := H
 dsimp only at H
 have H' := Aside0.mk H
 clear H
 go_enter Try.func60, Try.ntmps60
 go_wp2_with (first | ((with_reducible refine gd_ 5 ?_); refine rl_ Kd.string 9 5 ([] : List ByteArray) [] ?_; intro v602 w3 ho4 hb hg_ hnew_; clear hg_ hnew_; (first | rw [← Ny601.out] at ho4 | (simp only [Int.reduceToNat] at ho4; rw [← Ny601.out] at ho4)); have HO603 := Aside0.mk (Kd.R_lower ho4 (keep_size (w := w) (g := g) (row := none) (by repeat (first | (with_reducible first | exact HK.out | apply KeepBut.set_ | apply keep_drewN | apply keep_drew | apply keep_alloc) | exact HK.out)))); replace HK := Aside0.mk (KeepBut.trans (by repeat (first | (with_reducible first | exact HK.out | apply KeepBut.set_ | apply keep_drewN | apply keep_drew | apply keep_alloc) | exact HK.out)) (KeepBut.of_below hb g none) (.inl rfl)); replace HB := Aside0.mk (below_step (bs1_ HB (IsS111.ge HI0.out)) hb); replace HI0 := Aside0.mk (IsS111.below (by repeat (first | (with_reducible first | exact HI0.out | apply IsS111.alloc | apply IsS111.drewN | apply IsS111.drew | apply IsS111.set_1 | apply IsS111.set_2) | exact HI0.out)) hb); clear hb ho4) | ((with_reducible refine gd_ 7 ?_); refine rl_ (Kd.int .i64) 3 7 ([0, 1, 2, 3, 4, 5, 7, 8, 6] : List Int) [.int .i64 0, .int .i64 1, .int .i64 2, .int .i64 3, .int .i64 4, .int .i64 5, .int .i64 7, .int .i64 8, .int .i64 6] ?_; intro v605 w5 ho6 hb hg_ hnew_; clear hg_ hnew_; (first | rw [← Ny604.out] at ho6 | (simp only [Int.reduceToNat] at ho6; rw [← Ny604.out] at ho6)); replace HO603 := rb_ HO603 hb; have HO606 := Aside0.mk (Kd.R_lower ho6 (keep_size (w := w) (g := g) (row := none) (by repeat (first | (with_reducible first | exact HK.out | apply KeepBut.set_ | apply keep_drewN | apply keep_drew | apply keep_alloc) | exact HK.out)))); replace HK := Aside0.mk (KeepBut.trans (by repeat (first | (with_reducible first | exact HK.out | apply KeepBut.set_ | apply keep_drewN | apply keep_drew | apply keep_alloc) | exact HK.out)) (KeepBut.of_below hb g none) (.inl rfl)); replace HB := Aside0.mk (below_step (bs1_ HB (IsS111.ge HI0.out)) hb); replace HI0 := Aside0.mk (IsS111.below (by repeat (first | (with_reducible first | exact HI0.out | apply IsS111.alloc | apply IsS111.drewN | apply IsS111.drew | apply IsS111.set_1 | apply IsS111.set_2) | exact HI0.out)) hb); clear hb ho6; obtain ⟨Ao7, co7, eo7⟩ := Kd.R_slice HO606.out; subst eo7) | ((with_reducible refine gk_ 98 ?_); refine gl_ 8 Try.func98 #[.pointer (some ⟨g, 0, none⟩), .slice Ao7 y604.length co7] ?_; (with_reducible refine (spec_l1Int.calls g s0_0 s0_1 s0_2 _ _ y604 t607 t608 t609 w0 _ ?side1 ?side2 ?side3 ?side4 ?side5 A2.out).mono ?_); (case side1 => repeat (first | (with_reducible first | exact HI0.out | apply IsS111.alloc | apply IsS111.drewN | apply IsS111.drew | apply IsS111.set_1 | apply IsS111.set_2) | exact HI0.out)); (case side2 => repeat (first | (with_reducible first | exact HB.out | apply below_alloc | apply pw_below_drewN | apply below_drew1 | refine below_set ?_ (IsS111.ge HI0.out)) | exact HB.out)); (case side3 => exact ch_ HO606); (case side4 => exact (cl_ HO606)); (case side5 => exact far_slice (IsS111.own_ne HI0.out HO606.out (by decide))); rintro e w8 ⟨rfl, hi, hb, hk⟩; refine ⟨_, rfl, ?_⟩; replace HO603 := Aside0.mk (Kd.R_mono (Kd.R_keep (IsS111.apart (show IsS111 w0 _ g s0_0 s0_1 s0_2 from by repeat (first | (with_reducible first | exact HI0.out | apply IsS111.alloc | apply IsS111.drewN | apply IsS111.drew | apply IsS111.set_1 | apply IsS111.set_2) | exact HI0.out)) (kr_ HO603.out) (by decide)) hk (fun _ h => h.2)) (fun _ h => h.1)); replace HO606 := Aside0.mk (Kd.R_mono (Kd.R_keep (IsS111.apart (show IsS111 w0 _ g s0_0 s0_1 s0_2 from by repeat (first | (with_reducible first | exact HI0.out | apply IsS111.alloc | apply IsS111.drewN | apply IsS111.drew | apply IsS111.set_1 | apply IsS111.set_2) | exact HI0.out)) (kr_ HO606.out) (by decide)) hk (fun _ h => h.2)) (fun _ h => h.1)); replace HK := Aside0.mk (KeepBut.trans (by repeat (first | (with_reducible first | exact HK.out | apply KeepBut.set_ | apply keep_drewN | apply keep_drew | apply keep_alloc) | exact HK.out)) hk (.inl rfl)); replace HB := Aside0.mk hb; replace HI0 := Aside0.mk hi; clear hb hk hi))
 go_loopg [3, 4] k (fun kq v3 v4 w' => ∃ (x3_1 : List ByteArray) (x4_1 : Int) (x1001_1 : Int) (x1002_1 : Int), v4 = .int .i64 x4_1 ∧ Aside0 (spec_l6List.l0 kq x3_1 x4_1 s0_0 x1001_1 x1002_1 = some (r1, r2, r3)) ∧ Aside0 (kq ≤ k) ∧ Aside0 (Kd.R Kd.string 9 w' w.heap.size (fun _ => True) v3 x3_1) ∧ Aside0 (IsS111 w0 w' g s0_0 x1001_1 x1002_1) ∧ Aside0 (KeepBut w w' g none) ∧ Aside0 (Below w0.heap.size w0 w'))
 case atStart => exact ⟨(y601), (t607), (t608), (t609), e1_, H', ⟨Nat.le_refl _⟩, ⟨kr_ HO603.out⟩, ⟨by repeat (first | (with_reducible first | exact HI0.out | apply IsS111.alloc | apply IsS111.drewN | apply IsS111.drew | apply IsS111.set_1 | apply IsS111.set_2) | exact HI0.out)⟩, ⟨by repeat (first | (with_reducible first | exact HK.out | apply KeepBut.set_ | apply keep_drewN | apply keep_drew | apply keep_alloc) | exact HK.out)⟩, ⟨by repeat (first | (with_reducible first | exact HB.out | apply below_alloc | apply pw_below_drewN | apply below_drew1 | refine below_set ?_ (IsS111.ge HI0.out)) | exact HB.out)⟩⟩
 case round =>
  clear H'
  obtain ⟨x3_1, x4_1, x1001_1, x1002_1, rfl, HA, HK1, HO_3, HI0, HK, HB⟩ := hrel
  cases gk with
  | zero => exact absurd HA.out (by simp [spec_l6List.l0])
  | succ k1 =>
   have H := HA.out
   clear HA
   simp only [spec_l6List.l0] at H
   replace H := it_ H; obtain ⟨c9, H⟩ | ⟨c9, H⟩ := H
   ·have c9b0 : decide (0 < x4_1) = true := decide_eq_true c9
    clear c9
    obtain ⟨y610, hy610⟩ : ∃ y_ : List ByteArray, y_ = (([(⟨#[]⟩ : ByteArray), (⟨#[97]⟩ : ByteArray), (⟨#[98]⟩ : ByteArray), (⟨#[120, 121, 122]⟩ : ByteArray)] : List ByteArray)) := ⟨_, rfl⟩
    replace H : ((spec_l1Str.f s0_0 x1001_1 x1002_1 y610).bind fun bt613 => (if x3_1.length < 8796093022208 then (spec_l6List.l0 k1 (x3_1 ++ [bt613.1]) (wrap64 (x4_1 - 1)) s0_0 bt613.2.1 bt613.2.2) else (none))) = some (r1, r2, r3) := yh_ hy610 H
    have Ny610 := Aside0.mk hy610
    clear hy610
    replace H := bi_ H; obtain ⟨⟨t613, t614, t615⟩, A10, H⟩ := H
    dsimp only at H
    replace H := ip_ H; obtain ⟨c11, H⟩ := H
    have LMc11 := Aside0.mk c11
    clear c11
    obtain ⟨y616, hy616⟩ : ∃ y_ : List ByteArray, y_ = (x3_1 ++ [t613]) := ⟨_, rfl⟩
    replace H : (spec_l6List.l0 k1 y616 (wrap64 (x4_1 - 1)) s0_0 t614 t615) = some (r1, r2, r3) := yh_ hy616 H
    have Ny616 := Aside0.mk hy616
    clear hy616
    have H' := Aside0.mk H
    clear H
    go_wp2_with (first | ((with_reducible refine gd_ 15 ?_); refine rl_ Kd.string 9 15 ([(⟨#[]⟩ : ByteArray), (⟨#[97]⟩ : ByteArray), (⟨#[98]⟩ : ByteArray), (⟨#[120, 121, 122]⟩ : ByteArray)] : List ByteArray) [.string (⟨#[]⟩ : ByteArray), .string (⟨#[97]⟩ : ByteArray), .string (⟨#[98]⟩ : ByteArray), .string (⟨#[120, 121, 122]⟩ : ByteArray)] ?_; intro v611 w12 ho13 hb hg_ hnew_; clear hg_ hnew_; (first | rw [← Ny610.out] at ho13 | (simp only [Int.reduceToNat] at ho13; rw [← Ny610.out] at ho13)); have HO612 := Aside0.mk (Kd.R_lower (Kd.R_new' ho13 (lt_ HO_3)) (keep_size (w := w) (g := g) (row := none) (by repeat (first | (with_reducible first | exact HK.out | apply KeepBut.set_ | apply keep_drewN | apply keep_drew | apply keep_alloc) | exact HK.out)))); replace HO_3 := re_ HO_3 ho13 hb; replace HK := Aside0.mk (KeepBut.trans (by repeat (first | (with_reducible first | exact HK.out | apply KeepBut.set_ | apply keep_drewN | apply keep_drew | apply keep_alloc) | exact HK.out)) (KeepBut.of_below hb g none) (.inl rfl)); replace HB := Aside0.mk (below_step (bs1_ HB (IsS111.ge HI0.out)) hb); replace HI0 := Aside0.mk (IsS111.below (by repeat (first | (with_reducible first | exact HI0.out | apply IsS111.alloc | apply IsS111.drewN | apply IsS111.drew | apply IsS111.set_1 | apply IsS111.set_2) | exact HI0.out)) hb); clear hb ho13; obtain ⟨Ao14, co14, eo14⟩ := Kd.R_slice HO612.out; subst eo14) | ((with_reducible refine gk_ 99 ?_); refine gl_ 16 Try.func99 #[.pointer (some ⟨g, 0, none⟩), .slice Ao14 y610.length co14] ?_; (with_reducible refine (spec_l1Str.calls g s0_0 x1001_1 x1002_1 _ _ y610 t613 t614 t615 w0 _ ?side1 ?side2 ?side3 ?side4 ?side5 A10.out).mono ?_); (case side1 => repeat (first | (with_reducible first | exact HI0.out | apply IsS111.alloc | apply IsS111.drewN | apply IsS111.drew | apply IsS111.set_1 | apply IsS111.set_2) | exact HI0.out)); (case side2 => repeat (first | (with_reducible first | exact HB.out | apply below_alloc | apply pw_below_drewN | apply below_drew1 | refine below_set ?_ (IsS111.ge HI0.out)) | exact HB.out)); (case side3 => exact ch_ HO612); (case side4 => exact (cl_ HO612)); (case side5 => exact far_slice (IsS111.own_ne HI0.out HO612.out (by decide))); rintro e w15 ⟨rfl, hi, hb, hk⟩; refine ⟨_, rfl, ?_⟩; replace HO_3 := Aside0.mk (Kd.R_mono (Kd.R_keep (IsS111.apart (show IsS111 w0 _ g s0_0 x1001_1 x1002_1 from by repeat (first | (with_reducible first | exact HI0.out | apply IsS111.alloc | apply IsS111.drewN | apply IsS111.drew | apply IsS111.set_1 | apply IsS111.set_2) | exact HI0.out)) (kr_ HO_3.out) (by decide)) hk (fun _ h => h.2)) (fun _ h => h.1)); replace HO612 := Aside0.mk (Kd.R_mono (Kd.R_keep (IsS111.apart (show IsS111 w0 _ g s0_0 x1001_1 x1002_1 from by repeat (first | (with_reducible first | exact HI0.out | apply IsS111.alloc | apply IsS111.drewN | apply IsS111.drew | apply IsS111.set_1 | apply IsS111.set_2) | exact HI0.out)) (kr_ HO612.out) (by decide)) hk (fun _ h => h.2)) (fun _ h => h.1)); replace HK := Aside0.mk (KeepBut.trans (by repeat (first | (with_reducible first | exact HK.out | apply KeepBut.set_ | apply keep_drewN | apply keep_drew | apply keep_alloc) | exact HK.out)) hk (.inl rfl)); replace HB := Aside0.mk hb; replace HI0 := Aside0.mk hi; clear hb hk hi) | ((with_reducible refine gate_builtin (b := .append) (xs := #[.tmp 13, .tmp 17]) rfl ?_); at_builtin; refine Kd.R_append Kd.string w.heap.size rfl (.tmp 13) (.tmp 17) 24 9 (.string ⟨#[]⟩) 16 rfl Try.underlying24 info9 rfl (by decide) (by omega) u3 x3_1 t613 [.string t613] (fun k_ => some k_ ≠ (.slice Ao14 y610.length co14 : Value).ownBlock) (fun _ => False) rfl rfl ?aP (fun _ hk => hk.elim) ?aF ?aO (Below.refl _ _) ?aS ?aL ?_; (case aP => exact rfl); (case aF => exact (fun k_ hk => Kd.fresh' (lt_ HO612) k_ hk)); (case aO => exact (kr_ (Kd.R_mono HO_3.out (fun _ hk => hk.2)))); (case aS => exact (keep_size (w := w) (g := g) (row := none) (by repeat (first | (with_reducible first | exact HK.out | apply KeepBut.set_ | apply keep_drewN | apply keep_drew | apply keep_alloc) | exact HK.out)))); (case aL => have := LMc11.out; omega); intro v617 w16 ho hb hg hat; rw [← Ny616.out] at ho; replace HO612 := Aside0.mk (Kd.R_after (ok := (fun _ => True)) (kr_ HO612.out) hg hat); replace HB := Aside0.mk (below_weaken (bs1_ HB (IsS111.ge HI0.out)) HL.out hb); replace HI0 := Aside0.mk (IsS111.grown (by repeat (first | (with_reducible first | exact HI0.out | apply IsS111.alloc | apply IsS111.drewN | apply IsS111.drew | apply IsS111.set_1 | apply IsS111.set_2) | exact HI0.out)) hg (IsS111.own_ne HI0.out HO_3.out (by decide))); replace HK := Aside0.mk (KeepBut.trans (by repeat (first | (with_reducible first | exact HK.out | apply KeepBut.set_ | apply keep_drewN | apply keep_drew | apply keep_alloc) | exact HK.out)) (KeepBut.of_grown hg g) (Kd.R_base2 HO_3.out)); have HO618 := Aside0.mk ho; clear HO_3; clear ho hb hg hat))
    go_roundg k1
    case measure => have := HK1.out; omega
    case rel => exact ⟨(y616), (wrap64 (x4_1 - 1)), (t614), (t615), e1_, H', ⟨by have := HK1.out; omega⟩, ⟨by (with_reducible repeat (first | apply Kd.R_alloc | apply Kd.R_drewN | apply Kd.R_drew)); exact Kd.R_mono HO618.out (fun _ hk => trivial)⟩, ⟨by repeat (first | (with_reducible first | exact HI0.out | apply IsS111.alloc | apply IsS111.drewN | apply IsS111.drew | apply IsS111.set_1 | apply IsS111.set_2) | exact HI0.out)⟩, ⟨by repeat (first | (with_reducible first | exact HK.out | apply KeepBut.set_ | apply keep_drewN | apply keep_drew | apply keep_alloc) | exact HK.out)⟩, ⟨by repeat (first | (with_reducible first | exact HB.out | apply below_alloc | apply pw_below_drewN | apply below_drew1 | refine below_set ?_ (IsS111.ge HI0.out)) | exact HB.out)⟩⟩
   ·have c9b0 : decide (0 < x4_1) = false := decide_eq_false c9
    clear c9
    replace H := so3_ H; obtain ⟨rfl, rfl, rfl⟩ := H
    go_wp2
    go_ret
    exact ⟨_, e2_, kr_ HO_3.out, by repeat (first | (with_reducible first | exact HI0.out | apply IsS111.alloc | apply IsS111.drewN | apply IsS111.drew | apply IsS111.set_1 | apply IsS111.set_2) | exact HI0.out), by repeat (first | (with_reducible first | exact HB.out | apply below_alloc | apply pw_below_drewN | apply below_drew1 | refine below_set ?_ (IsS111.ge HI0.out)) | exact HB.out), by repeat (first | (with_reducible first | exact HK.out | apply KeepBut.set_ | apply keep_drewN | apply keep_drew | apply keep_alloc) | exact HK.out)⟩
end Go.Proofs.Ytjnnglphdaemaaa.Q
end

section
/- Drawn lists of texts. Plain. -/
namespace Go.Proofs.Ytjnnglphdaemaaa.Q
open Go.RowKit Go.Proofs.Ytjnnglphdaemaaa.B Go.Proofs.YtjnnglphdaemaaaW.PrintWords Go.Proofs.YtjnnglphdaemaaaW.PrintMore
set_option linter.unusedVariables false
set_option linter.unusedSimpArgs false

theorem l6List_ev {s : List Int} {i : Int} (h : Int) (hd : Drawer s i) : ∃ l i' h', Ev (fun k => spec_l6List.f k s i h) (l, i', h') ∧ Drawer s i' ∧ l.length ≤ 8 ∧ ∀ x ∈ l, x.size ≤ 3 := by
  obtain ⟨n, i1, h1, e1, hn, d1⟩ := l1Int_ok h ([0, 1, 2, 3, 4, 5, 7, 8, 6] : List Int) hd (by decide) (by decide)
  have main : ∀ (n : Nat) (acc : List ByteArray) (i h : Int), Drawer s i → acc.length + n ≤ 8 → (∀ x ∈ acc, x.size ≤ 3) → ∃ l i' h', Ev (fun k => spec_l6List.l0 k acc (n : Int) s i h) (l, i', h') ∧ Drawer s i' ∧ l.length ≤ 8 ∧ ∀ x ∈ l, x.size ≤ 3 := by
    intro n
    induction n with
    | zero =>
      intro acc i h hd ha hx
      refine ⟨acc, i, h, Ev.step (f := fun _ => some (acc, i, h)) (fun k => ?_) (Ev.now _), hd, by omega, hx⟩
      simp only [spec_l6List.l0]
      rw [if_neg (by omega)]
    | succ n ih =>
      intro acc i h hd ha hx
      obtain ⟨t, i2, h2, e2, hs, d2⟩ := l1Str_ok h ([(⟨#[]⟩ : ByteArray), (⟨#[97]⟩ : ByteArray), (⟨#[98]⟩ : ByteArray), (⟨#[120, 121, 122]⟩ : ByteArray)] : List ByteArray) hd (by simp) (by simp)
      have hss : t.size ≤ 3 := by
        simp only [List.mem_cons, List.not_mem_nil, or_false] at hs
        rcases hs with rfl | rfl | rfl | rfl <;> decide
      obtain ⟨l, i3, h3, e3, d3, hl3, hx3⟩ := ih (acc ++ [t]) i2 h2 d2 (by simp; omega) (fun x hm => by
        rcases List.mem_append.1 hm with hm | hm
        · exact hx x hm
        · rw [List.mem_singleton.1 hm]
          exact hss)
      refine ⟨l, i3, h3, Ev.step (fun k => ?_) e3, d3, hl3, hx3⟩
      simp only [spec_l6List.l0]
      rw [if_pos (by omega), e2]
      simp only [Option.bind_some]
      rw [if_pos (by omega), w64 (x := ((n + 1 : Nat) : Int) - 1) (by omega) (by omega)]
      congr 1
      omega
  have hn2 : 0 ≤ n ∧ n ≤ 8 := by
    simp only [List.mem_cons, List.not_mem_nil, or_false] at hn
    omega
  obtain ⟨l, i2, h2, e2, d2, hl2, hx2⟩ := main n.toNat [] i1 h1 d1 (by simp; omega) (by simp)
  rw [show ((n.toNat : Nat) : Int) = n from by omega] at e2
  refine ⟨l, i2, h2, ?_, d2, hl2, hx2⟩
  unfold spec_l6List.f
  rw [e1]
  exact e2
end Go.Proofs.Ytjnnglphdaemaaa.Q
end

section
-- Written by a program of this session (wip/tools/pp.sh) over the print of the kit.
namespace Go.Proofs.Ytjnnglphdaemaaa.Q
open Go.RowKit Go.Proofs.YtjnnglphdaemaaaW.PrintWords Go.Proofs.YtjnnglphdaemaaaW.PrintLast Go.Proofs.YtjnnglphdaemaaaW.PrintMore
attribute [local go_sem] max2_int min2_int max_two min_two max_three min_three max_four min_four   -- for this text's walks alone
set_option linter.unusedVariables false
set_option linter.unusedSimpArgs false
def spec_DrawLeaves.f (k : Nat) (l0 : List Int) : Option (List ByteArray × Int) := (spec_l1New.f k l0).bind fun bt601 => ((spec_l6List.f k bt601.1 bt601.2.1 bt601.2.2).bind fun bt605 => (if bt605.1.length < 8796093022208 then ((some (bt605.1 ++ [(⟨#[122]⟩ : ByteArray)] : List ByteArray)).bind fun y610 => ((spec_l1Below.f bt601.1 bt605.2.1 bt605.2.2 (y610.length : Int)).bind fun bt613 => (some (y610, bt613.1)))) else (none)))
theorem spec_DrawLeaves.mono : ∀ a0 k, LeO (spec_DrawLeaves.f k a0) (spec_DrawLeaves.f (k + 1) a0) := by
 intro a0 k
 unfold spec_DrawLeaves.f
 repeat' (with_reducible first | exact LeO.refl _ | exact LeO.none _ | apply spec_l1New.mono | apply spec_l6List.mono | apply LeO.ite | refine LeO.bind ?_ fun _ => ?_)
set_option maxHeartbeats 8000000 in
set_option maxRecDepth 100000 in
theorem spec_DrawLeaves.calls (k : Nat) (A0 : Option Addr) (c0 : Nat) (l0 : List Int) (r1 : List ByteArray) (r2 : Int) (w : World) (hr0 : Kd.C (Kd.int .u8) w A0 l0.length l0) (hc0 : l0.length ≤ c0) (h : spec_DrawLeaves.f k l0 = some (r1, r2)) :
  Calls Try.prog 11 #[.slice A0 l0.length c0] w fun e w' => ∃ v0_ : Value, e = .returned (.tuple #[v0_, .int .i64 r2]) ∧ Kd.R Kd.string 9 w' w.heap.size (fun _ => True) v0_ r1 ∧ Below w.heap.size w w' := by
 have HR0 := Aside0.mk hr0
 have HC0 := Aside0.mk hc0
 clear hr0 hc0
 have HB := Aside0.mk (Below.refl w.heap.size w)
 have H : ((spec_l1New.f k l0).bind fun bt601 => ((spec_l6List.f k bt601.1 bt601.2.1 bt601.2.2).bind fun bt605 => (if bt605.1.length < 8796093022208 then ((some (bt605.1 ++ [(⟨#[122]⟩ : ByteArray)] : List ByteArray)).bind fun y610 => ((spec_l1Below.f bt601.1 bt605.2.1 bt605.2.2 (y610.length : Int)).bind fun bt613 => (some (y610, bt613.1)))) else (none)))) = some (r1, r2) := h
 clear h
 replace H := bi_ H; obtain ⟨⟨t601, t602, t603⟩, A2, H⟩ := H
 dsimp only at H
 replace H := bi_ H; obtain ⟨⟨t605, t608, t609⟩, A3, H⟩ := H
 dsimp only at H
 replace H := ip_ H; obtain ⟨c4, H⟩ := H
 have LMc4 := Aside0.mk c4
 clear c4
 obtain ⟨y610, Ny610, H⟩ := sb_ (t605 ++ [(⟨#[122]⟩ : ByteArray)]) H
 replace H := bi_ H; obtain ⟨⟨t613, t614, t615⟩, A5, H⟩ := H
 dsimp only at H
 replace H := so2_ H; obtain ⟨rfl, rfl⟩ := H
 go_enter Try.func11, Try.ntmps11
 go_wp2_with (first | ((with_reducible refine gq_ 59 7 ?_); refine gc_ 7 Try.func59 (spec_l1New.calls k _ _ l0 t601 t602 t603 w _ (bw_ HB) HR0.out HC0.out A2.out) ?_; rintro e w6 ⟨g604, rfl, hi, hb, hb2⟩; refine ⟨_, rfl, ?_⟩; replace HB := Aside0.mk hb; have HI604 := Aside0.mk hi; clear hb hb2 hi) | ((with_reducible refine gk_ 60 ?_); refine gl_ 9 Try.func60 #[.pointer (some ⟨g604, 0, none⟩)] ?_; (with_reducible refine (spec_l6List.calls k g604 t601 t602 t603 t605 t608 t609 w _ ?side1 ?side2 A3.out).mono ?_); (case side1 => repeat (first | (with_reducible first | exact HI604.out | apply IsS111.alloc | apply IsS111.drewN | apply IsS111.drew | apply IsS111.set_1 | apply IsS111.set_2) | exact HI604.out)); (case side2 => repeat (first | (with_reducible first | exact HB.out | apply below_alloc | apply pw_below_drewN | apply below_drew1 | refine below_set ?_ (IsS111.ge HI604.out)) | exact HB.out)); rintro e w7 ⟨v606, rfl, ho0, hi, hb, hk⟩; refine ⟨_, rfl, ?_⟩; have HO607 := Aside0.mk (Kd.R_lower ho0 (below_size (bs1_ HB (IsS111.ge HI604.out)))); replace HB := Aside0.mk hb; replace HI604 := Aside0.mk hi; clear hb hk hi ho0) | ((with_reducible refine gate_builtin (b := .append) (xs := #[.tmp 9, .tmp 10]) rfl ?_); at_builtin; refine Kd.R_append Kd.string (w0 := w) w.heap.size rfl (.tmp 9) (.tmp 10) 24 9 (.string ⟨#[]⟩) 16 rfl Try.underlying24 info9 rfl (by decide) (by omega) v606 t605 (⟨#[122]⟩ : ByteArray) [.string (⟨#[122]⟩ : ByteArray)] (fun _ => True) (fun _ => False) rfl rfl ?aP (fun _ hk => hk.elim) ?aF ?aO ?aB ?aS ?aL ?_; (case aP => exact rfl); (case aB => exact (bs1_ HB (IsS111.ge HI604.out))); (case aF => exact (fun _ _ => trivial)); (case aO => exact (kr_ HO607.out)); (case aS => exact (below_size (bs1_ HB (IsS111.ge HI604.out)))); (case aL => have := LMc4.out; omega); intro v611 w8 ho hb hg hat; rw [← Ny610.out] at ho; replace HI604 := Aside0.mk (IsS111.grown (by repeat (first | (with_reducible first | exact HI604.out | apply IsS111.alloc | apply IsS111.drewN | apply IsS111.drew | apply IsS111.set_1 | apply IsS111.set_2) | exact HI604.out)) hg (IsS111.own_ne HI604.out HO607.out (by decide))); replace HB := Aside0.mk hb; have HO612 := Aside0.mk ho; clear HO607; clear ho hb hg hat; obtain ⟨Ao9, co9, eo9⟩ := Kd.R_slice HO612.out; subst eo9) | ((with_reducible refine gk_ 61 ?_); refine gl_ 16 Try.func61 #[.pointer (some ⟨g604, 0, none⟩), .int .i64 (y610.length : Int)] ?_; (with_reducible refine (spec_l1Below.calls g604 t601 t608 t609 (y610.length : Int) t613 t614 t615 w _ ?side1 ?side2 A5.out).mono ?_); (case side1 => repeat (first | (with_reducible first | exact HI604.out | apply IsS111.alloc | apply IsS111.drewN | apply IsS111.drew | apply IsS111.set_1 | apply IsS111.set_2) | exact HI604.out)); (case side2 => repeat (first | (with_reducible first | exact HB.out | apply below_alloc | apply pw_below_drewN | apply below_drew1 | refine below_set ?_ (IsS111.ge HI604.out)) | exact HB.out)); rintro e w10 ⟨rfl, hi, hb, hk⟩; refine ⟨_, rfl, ?_⟩; replace HO612 := Aside0.mk (Kd.R_mono (Kd.R_keep (IsS111.apart (show IsS111 w _ g604 t601 t608 t609 from by repeat (first | (with_reducible first | exact HI604.out | apply IsS111.alloc | apply IsS111.drewN | apply IsS111.drew | apply IsS111.set_1 | apply IsS111.set_2) | exact HI604.out)) (kr_ HO612.out) (by decide)) hk (fun _ h => h.2)) (fun _ h => h.1)); replace HB := Aside0.mk hb; replace HI604 := Aside0.mk hi; clear hb hk hi))
 go_ret2
 exact ⟨_, e2_, kr_ HO612.out, by repeat (first | (with_reducible first | exact HB.out | apply below_alloc | apply pw_below_drewN | apply below_drew1 | refine below_set ?_ (IsS111.ge HI604.out)) | exact HB.out)⟩
end Go.Proofs.Ytjnnglphdaemaaa.Q
end

section
/- Drawn leaves. -/
namespace Go.Proofs.Ytjnnglphdaemaaa.Q
open Go.RowKit Go.Proofs.Ytjnnglphdaemaaa.B Go.Proofs.YtjnnglphdaemaaaW.PrintWords
set_option linter.unusedVariables false
theorem drawLeaves_ev (l0 : List Int) (hl : l0.length ≤ 1048576) : ∃ (l : List ByteArray) (n : Nat), Ev (fun k => spec_DrawLeaves.f k l0) (l, (n : Int)) ∧ n < l.length ∧ l.length ≤ 9 ∧ ∀ x ∈ l, x.size ≤ 3 := by
  obtain ⟨h, hN⟩ := l1New_ev l0 hl
  obtain ⟨l, i1, h1, e1, d1, hl1, hx1⟩ := l6List_ev h (Drawer.new hl)
  have hlen : (l ++ [(⟨#[122]⟩ : ByteArray)]).length = l.length + 1 := by simp
  obtain ⟨b, i2, h2, e2, b0, b1, d2⟩ := l1Below_ok h1 ((l ++ [(⟨#[122]⟩ : ByteArray)]).length : Int) d1 (by omega) (by omega)
  obtain ⟨n, rfl⟩ := Int.eq_ofNat_of_zero_le b0
  refine ⟨l ++ [⟨#[122]⟩], n, ?_, by omega, by omega, fun x hx => ?_⟩
  · unfold spec_DrawLeaves.f
    refine Ev.bind hN (Ev.bind e1 ?_)
    simp only
    refine Ev.pos (by omega) (Ev.bind (Ev.now _) ?_)
    exact Ev.bind (Ev.const e2) (Ev.now _)
  · rcases List.mem_append.1 hx with hx | hx
    · exact hx1 x hx
    · rw [List.mem_singleton.1 hx]
      decide
end Go.Proofs.Ytjnnglphdaemaaa.Q
end

section
-- Written by a program of this session (wip/tools/pp.sh) over the print of the kit.
namespace Go.Proofs.Ytjnnglphdaemaaa.Q
open Go.RowKit Go.Proofs.YtjnnglphdaemaaaW.PrintWords Go.Proofs.YtjnnglphdaemaaaW.PrintLast Go.Proofs.YtjnnglphdaemaaaW.PrintMore
attribute [local go_sem] max2_int min2_int max_two min_two max_three min_three max_four min_four   -- for this text's walks alone
set_option linter.unusedVariables false
set_option linter.unusedSimpArgs false
def laws_sameTexts.l0 : Nat → List ByteArray → List ByteArray → Int → Option (Bool)
 | 0, _, _, _ => none
 | k + 1, x0, x1, x5 => if x5 < (x0.length : Int) then (if 0 ≤ x5 then (if x5 < (x1.length : Int) then (if (rdOf ByteArray.empty x0 x5).toList = (rdOf ByteArray.empty x1 x5).toList then (laws_sameTexts.l0 k x0 x1 (wrap64 (x5 + 1))) else (some false)) else (none)) else (none)) else (some true)
def laws_sameTexts.f (k : Nat) (l0 : List ByteArray) (l1 : List ByteArray) : Option (Bool) := if (l0.length : Int) = (l1.length : Int) then (laws_sameTexts.l0 k l0 l1 0) else (some false)
theorem laws_sameTexts.mono_l : ∀ k, (∀ y0 y1 y2, LeO (laws_sameTexts.l0 k y0 y1 y2) (laws_sameTexts.l0 (k + 1) y0 y1 y2))
 | 0 => fun _ _ _ r h => by simp [laws_sameTexts.l0] at h
 | k + 1 => by
  have ih0 := laws_sameTexts.mono_l k
  ·intro y0 y1 y2
   unfold laws_sameTexts.l0
   repeat' (with_reducible first | exact LeO.refl _ | exact LeO.none _ | apply ih0 | apply LeO.ite | refine LeO.bind ?_ fun _ => ?_)
theorem laws_sameTexts.mono : ∀ a0 a1 k, LeO (laws_sameTexts.f k a0 a1) (laws_sameTexts.f (k + 1) a0 a1) := by
 intro a0 a1 k
 have ih0 := laws_sameTexts.mono_l k
 unfold laws_sameTexts.f
 repeat' (with_reducible first | exact LeO.refl _ | exact LeO.none _ | apply ih0 | apply LeO.ite | refine LeO.bind ?_ fun _ => ?_)
set_option maxHeartbeats 8000000 in
set_option maxRecDepth 100000 in
theorem laws_sameTexts.calls (k : Nat) (A0 : Option Addr) (c0 : Nat) (l0 : List ByteArray) (A1 : Option Addr) (c1 : Nat) (l1 : List ByteArray) (r : Bool) (w : World) (hr0 : Kd.C Kd.string w A0 l0.length l0) (hc0 : l0.length ≤ c0) (hr1 : Kd.C Kd.string w A1 l1.length l1) (hc1 : l1.length ≤ c1) (h : laws_sameTexts.f k l0 l1 = some r) :
  Calls Try.prog 18 #[.slice A0 l0.length c0, .slice A1 l1.length c1] w fun e w' => e = .returned (.bool r) ∧ Drawn0 w w' := by
 have HR0 := Aside0.mk hr0
 have HC0 := Aside0.mk hc0
 clear hr0 hc0
 have HR1 := Aside0.mk hr1
 have HC1 := Aside0.mk hc1
 clear hr1 hc1
 have H : (if (l0.length : Int) = (l1.length : Int) then (laws_sameTexts.l0 k l0 l1 0) else (some false)) = some r := h
 clear h
 replace H := it_ H; obtain ⟨c3, H⟩ | ⟨c3, H⟩ := H
 ·have c3b0 : ((l0.length : Int) == (l1.length : Int)) = true := beq_iff_eq.mpr c3
  have c3b1 : ((l0.length : Int) != (l1.length : Int)) = false := bne_eq_false_iff_eq.mpr c3
  have c3b2 : (l0.length == l1.length) = true := by first | simpa using c3 | (simp at c3 ⊢; omega)
  clear c3
  have H' := Aside0.mk H
  clear H
  go_enter Try.func18, Try.ntmps18
  go_wp2
  repeat (go_quiet (fail); try go_wp2)
  go_loopg [5] k (fun kq v5 w' => ∃ (x5_1 : Int), v5 = .int .i64 x5_1 ∧ Aside0 (laws_sameTexts.l0 kq l0 l1 x5_1 = some r) ∧ Aside0 (kq ≤ k) ∧ Drawn0 w w')
  case atStart => exact ⟨(0), e1_, H', ⟨Nat.le_refl _⟩, dw_⟩
  case round =>
   clear H'
   try clear c3
   try clear c3b0
   try clear c3b1
   try clear c3b2
   obtain ⟨x5_1, rfl, HA, HK1, ⟨m1, rfl⟩⟩ := hrel
   cases gk with
   | zero => exact absurd HA.out (by simp [laws_sameTexts.l0])
   | succ k1 =>
    have H := HA.out
    clear HA
    simp only [laws_sameTexts.l0] at H
    replace H := itd_ H; obtain ⟨c4b0, H⟩ | ⟨c4b0, H⟩ := H
    ·replace H := ipd_ H; obtain ⟨c5b0, H⟩ := H
     replace H := ipd_ H; obtain ⟨c6b0, H⟩ := H
     replace H := it_ H; obtain ⟨c7, H⟩ | ⟨c7, H⟩ := H
     ·have c7b0 : ((rdOf ByteArray.empty l0 x5_1).toList == (rdOf ByteArray.empty l1 x5_1).toList) = true := beq_iff_eq.mpr c7
      have c7b1 : ((rdOf ByteArray.empty l0 x5_1).toList != (rdOf ByteArray.empty l1 x5_1).toList) = false := bne_eq_false_iff_eq.mpr c7
      clear c7
      have H' := Aside0.mk H
      clear H
      have p601 : 0 ≤ (x5_1 : Int) := of_decide_eq_true as_
      have q601 : x5_1 < (l0.length : Int) := of_decide_eq_true as_
      obtain ⟨ad601, e601, hx601_0⟩ := Kd.at_string HR0.out x5_1 p601 q601
      cases e601
      replace p601 := eq_true p601
      replace q601 := eq_true q601
      have p602 : 0 ≤ (x5_1 : Int) := of_decide_eq_true as_
      have q602 : x5_1 < (l1.length : Int) := of_decide_eq_true as_
      obtain ⟨ad602, e602, hx602_0⟩ := Kd.at_string HR1.out x5_1 p602 q602
      cases e602
      replace p602 := eq_true p602
      replace q602 := eq_true q602
      go_wp2
      repeat (go_quiet (fail); try go_wp2)
      go_roundg k1
      case measure => have := HK1.out; omega
      case rel => exact ⟨(wrap64 (x5_1 + 1)), e1_, H', ⟨by have := HK1.out; omega⟩, dw_⟩
     ·have c7b0 : ((rdOf ByteArray.empty l0 x5_1).toList == (rdOf ByteArray.empty l1 x5_1).toList) = false := beq_eq_false_iff_ne.mpr c7
      have c7b1 : ((rdOf ByteArray.empty l0 x5_1).toList != (rdOf ByteArray.empty l1 x5_1).toList) = true := bne_iff_ne.mpr c7
      obtain rfl := Option.some.inj H
      have p601 : 0 ≤ (x5_1 : Int) := of_decide_eq_true as_
      have q601 : x5_1 < (l0.length : Int) := of_decide_eq_true as_
      obtain ⟨ad601, e601, hx601_0⟩ := Kd.at_string HR0.out x5_1 p601 q601
      cases e601
      replace p601 := eq_true p601
      replace q601 := eq_true q601
      have p602 : 0 ≤ (x5_1 : Int) := of_decide_eq_true as_
      have q602 : x5_1 < (l1.length : Int) := of_decide_eq_true as_
      obtain ⟨ad602, e602, hx602_0⟩ := Kd.at_string HR1.out x5_1 p602 q602
      cases e602
      replace p602 := eq_true p602
      replace q602 := eq_true q602
      go_wp2
      repeat (go_quiet (fail); try go_wp2)
      go_ret
      exact ⟨e1_, dw_⟩
    ·obtain rfl := Option.some.inj H
     go_wp2
     repeat (go_quiet (fail); try go_wp2)
     go_ret
     exact ⟨e1_, dw_⟩
 ·have c3b0 : ((l0.length : Int) == (l1.length : Int)) = false := beq_eq_false_iff_ne.mpr c3
  have c3b1 : ((l0.length : Int) != (l1.length : Int)) = true := bne_iff_ne.mpr c3
  have c3b2 : (l0.length == l1.length) = false := by first | simpa using c3 | (simp at c3 ⊢; omega)
  obtain rfl := Option.some.inj H
  go_enter Try.func18, Try.ntmps18
  go_wp2
  repeat (go_quiet (fail); try go_wp2)
  go_ret
  exact ⟨e1_, dw_⟩
end Go.Proofs.Ytjnnglphdaemaaa.Q
end

section
/- Whether two lists of texts are the same, as the laws tell it. Plain. -/
namespace Go.Proofs.Ytjnnglphdaemaaa.Q
open Go.RowKit Go.Proofs.Ytjnnglphdaemaaa.B Go.Proofs.YtjnnglphdaemaaaW.PrintWords
set_option linter.unusedVariables false
set_option linter.unusedSimpArgs false

theorem nextST {i n : Nat} (h : i < n) (hn : n ≤ 9223372036854775807) : wrap64 ((i : Int) + 1) = ((i + 1 : Nat) : Int) := by
  rw [w64 (by omega) (by omega)]
  omega
theorem laws_same_ev (a b : List ByteArray) (ha : a.length ≤ 9223372036854775807) : Ev (fun k => laws_sameTexts.f k a b) (decide (a = b)) := by
  unfold laws_sameTexts.f
  by_cases hl : a.length = b.length
  · have main : ∀ (d i : Nat), i + d = a.length → a.take i = b.take i → Ev (fun k => laws_sameTexts.l0 k a b (i : Int)) (decide (a = b)) := by
      intro d
      induction d with
      | zero =>
        intro i hi ht
        rw [List.take_of_length_le (by omega), List.take_of_length_le (by omega)] at ht
        rw [decide_eq_true ht]
        refine Ev.step (fun k => by simp only [laws_sameTexts.l0]; rfl) ?_
        exact Ev.neg (by omega) (Ev.now _)
      | succ d ih =>
        intro i hi ht
        obtain ⟨x, hx⟩ := get_some (l := a) (i := i) (by omega)
        obtain ⟨y, hy⟩ := get_some (l := b) (i := i) (by omega)
        refine Ev.step (fun k => by simp only [laws_sameTexts.l0]; rfl) ?_
        rw [rdOf_at hx, rdOf_at hy, nextST (show i < a.length by omega) ha]
        by_cases h : x.toList = y.toList
        · have e := bytes_ext h
          subst e
          exact Ev.pos (by omega) (Ev.pos (by omega) (Ev.pos (by omega) (Ev.pos rfl (ih (i + 1) (by omega) (by rw [take_one hx, take_one hy, ht])))))
        · have hn : ¬ a = b := by
            intro e
            subst e
            rw [hx] at hy
            exact h (by rw [Option.some.inj hy])
          rw [decide_eq_false hn]
          exact Ev.pos (by omega) (Ev.pos (by omega) (Ev.pos (by omega) (Ev.neg h (Ev.now _))))
    exact Ev.pos (by omega) (main a.length 0 (by omega) (by simp))
  · have hn : ¬ a = b := fun e => hl (by rw [e])
    rw [decide_eq_false hn]
    exact Ev.neg (by omega) (Ev.now _)
end Go.Proofs.Ytjnnglphdaemaaa.Q
end

section
-- Written by a program of this session (wip/tools/pp.sh) over the print of the kit.
namespace Go.Proofs.Ytjnnglphdaemaaa.Q
open Go.RowKit Go.Proofs.YtjnnglphdaemaaaW.PrintWords Go.Proofs.YtjnnglphdaemaaaW.PrintLast Go.Proofs.YtjnnglphdaemaaaW.PrintMore
attribute [local go_sem] max2_int min2_int max_two min_two max_three min_three max_four min_four   -- for this text's walks alone
set_option linter.unusedVariables false
set_option linter.unusedSimpArgs false
def laws_big.f (l0 : List Int) : Option (Bool) := some (decide ((l0.length : Int) > 1048576))
set_option maxHeartbeats 8000000 in
set_option maxRecDepth 100000 in
theorem laws_big.calls (A0 : Option Addr) (c0 : Nat) (l0 : List Int) (r : Bool) (w : World) (hr0 : Kd.C (Kd.int .u8) w A0 l0.length l0) (hc0 : l0.length ≤ c0) (h : laws_big.f l0 = some r) :
  Calls Try.prog 10 #[.slice A0 l0.length c0] w fun e w' => e = .returned (.bool r) ∧ Drawn0 w w' := by
 have HR0 := Aside0.mk hr0
 have HC0 := Aside0.mk hc0
 clear hr0 hc0
 have H : (some (decide ((l0.length : Int) > 1048576))) = some r := h
 clear h
 obtain rfl := Option.some.inj H
 go_enter Try.func10, Try.ntmps10
 go_wp2
 go_ret
 exact ⟨e1_, dw_⟩
end Go.Proofs.Ytjnnglphdaemaaa.Q
end

section
-- Written by a program of this session (wip/tools/pp.sh) over the print of the kit.
namespace Go.Proofs.Ytjnnglphdaemaaa.Q
open Go.RowKit Go.Proofs.YtjnnglphdaemaaaW.PrintWords Go.Proofs.YtjnnglphdaemaaaW.PrintLast Go.Proofs.YtjnnglphdaemaaaW.PrintMore
attribute [local go_sem] Instr.field asAgg
attribute [local go_sem] max2_int min2_int max_two min_two max_three min_three max_four min_four   -- for this text's walks alone
set_option linter.unusedVariables false
set_option linter.unusedSimpArgs false
def laws_FnNew.f (k : Nat) (l0 : List Int) : Option (Bool) := (laws_big.f l0).bind fun t601 => (if t601 = true then (some true) else ((spec_DrawLeaves.f k l0).bind fun bt602 => ((impl_HeadOf.f k bt602.1).bind fun bt606 => ((impl_LogNew.f k).bind fun bt609 => ((impl_Extend.f k bt609.1 bt609.2.1 bt609.2.2 (([(⟨bt606.1, bt606.2⟩ : S28)] : List (S28))) bt606.1 bt606.2 bt602.1).bind fun bt617 => ((impl_StoreNew.f k).bind fun bt624 => ((impl_Commit.f k bt624.1 bt624.2.1 bt624.2.2.1 bt624.2.2.2.1 bt624.2.2.2.2 (([(⟨bt606.1, bt606.2⟩ : S28)] : List (S28))) bt606.1 bt606.2 bt602.1).bind fun bt636 => ((impl_LogNew.f k).bind fun bt647 => ((impl_LogOk.f k bt647.1 bt647.2.1 bt647.2.2).bind fun t652 => (if t652 = true then ((impl_LogNew.f k).bind fun bt653 => (if (bt653.1.length : Int) = 0 then (if bt617.2.2.2 = 0 then ((laws_sameTexts.f k bt617.1 bt602.1).bind fun t658 => (if t658 = true then (if bt636.2.2.2.2.2 = 0 then ((laws_sameTexts.f k bt636.1 bt602.1).bind fun t659 => (if t659 = true then ((impl_StoreOk.f k bt636.1 bt636.2.1 bt636.2.2.1 bt636.2.2.2.1 bt636.2.2.2.2.1).bind fun t660 => (some t660)) else (none))) else (none)) else (none))) else (none)) else (none))) else (none)))))))))))
theorem laws_FnNew.mono : ∀ a0 k, LeO (laws_FnNew.f k a0) (laws_FnNew.f (k + 1) a0) := by
 intro a0 k
 unfold laws_FnNew.f
 repeat' (with_reducible first | exact LeO.refl _ | exact LeO.none _ | apply impl_Commit.mono | apply impl_Extend.mono | apply impl_HeadOf.mono | apply impl_LogNew.mono | apply impl_LogOk.mono | apply impl_StoreNew.mono | apply impl_StoreOk.mono | apply laws_sameTexts.mono | apply spec_DrawLeaves.mono | apply LeO.ite | refine LeO.bind ?_ fun _ => ?_)
def laws_FnNew.T5 : Bool × List (List Nat × List Nat) := (true, [([], []), ([], []), ([1], [1]), ([], []), ([], []), ([0, 2, 3, 4, 0], [0, 2, 3, 4]), ([5], [5]), ([6], [6]), ([6], [6]), ([], []), ([9, 7, 5, 0, 1, 2, 3, 4, 5, 6, 7, 9], [7, 9]), ([8, 10, 0, 1, 2, 3, 4, 5, 6, 7, 8, 9, 10], [8])])
def laws_FnNew.B5 : List Nat := [0, 0, 2, 0, 0, 31, 63, 127, 127, 0, 767, 2047]
theorem laws_FnNew.tab5 : rtab .any (opsOf Try.f3 5) = laws_FnNew.T5 := by kernel_rfl
theorem laws_FnNew.bits5 : waitsOk laws_FnNew.T5.2 laws_FnNew.B5 = true := by kernel_rfl
def laws_FnNew.T6 : Bool × List (List Nat × List Nat) := (true, [([], []), ([], []), ([1], [1]), ([], []), ([], []), ([0, 2, 3, 4, 0], [0, 2, 3, 4]), ([5], [5]), ([6], [6]), ([6], [6]), ([], []), ([9, 7, 5, 0, 1, 2, 3, 4, 5, 6, 7, 9], [7, 9]), ([8, 10, 0, 1, 2, 3, 4, 5, 6, 7, 8, 9, 10], [8])])
def laws_FnNew.B6 : List Nat := [0, 0, 2, 0, 0, 31, 63, 127, 127, 0, 767, 2047]
theorem laws_FnNew.tab6 : rtab .any (opsOf Try.f3 6) = laws_FnNew.T6 := by kernel_rfl
theorem laws_FnNew.bits6 : waitsOk laws_FnNew.T6.2 laws_FnNew.B6 = true := by kernel_rfl
set_option maxHeartbeats 8000000 in
set_option maxRecDepth 100000 in
theorem laws_FnNew.calls (k : Nat) (A0 : Option Addr) (c0 : Nat) (l0 : List Int) (r : Bool) (w : World) (hr0 : Kd.C (Kd.int .u8) w A0 l0.length l0) (hc0 : l0.length ≤ c0) (h : laws_FnNew.f k l0 = some r) :
  Calls Try.prog 3 #[.slice A0 l0.length c0] w fun e w' => e = .returned (.bool r) ∧ Below w.heap.size w w' := by
 have hu28 := Try.underlying28
 have hu31 := Try.underlying31
 have hu37 := Try.underlying37
 have HR0 := Aside0.mk hr0
 have HC0 := Aside0.mk hc0
 clear hr0 hc0
 have HB := Aside0.mk (Below.refl w.heap.size w)
 have H : ((laws_big.f l0).bind fun t601 => (if t601 = true then (some true) else ((spec_DrawLeaves.f k l0).bind fun bt602 => ((impl_HeadOf.f k bt602.1).bind fun bt606 => ((impl_LogNew.f k).bind fun bt609 => ((impl_Extend.f k bt609.1 bt609.2.1 bt609.2.2 (([(⟨bt606.1, bt606.2⟩ : S28)] : List (S28))) bt606.1 bt606.2 bt602.1).bind fun bt617 => ((impl_StoreNew.f k).bind fun bt624 => ((impl_Commit.f k bt624.1 bt624.2.1 bt624.2.2.1 bt624.2.2.2.1 bt624.2.2.2.2 (([(⟨bt606.1, bt606.2⟩ : S28)] : List (S28))) bt606.1 bt606.2 bt602.1).bind fun bt636 => ((impl_LogNew.f k).bind fun bt647 => ((impl_LogOk.f k bt647.1 bt647.2.1 bt647.2.2).bind fun t652 => (if t652 = true then ((impl_LogNew.f k).bind fun bt653 => (if (bt653.1.length : Int) = 0 then (if bt617.2.2.2 = 0 then ((laws_sameTexts.f k bt617.1 bt602.1).bind fun t658 => (if t658 = true then (if bt636.2.2.2.2.2 = 0 then ((laws_sameTexts.f k bt636.1 bt602.1).bind fun t659 => (if t659 = true then ((impl_StoreOk.f k bt636.1 bt636.2.1 bt636.2.2.1 bt636.2.2.2.1 bt636.2.2.2.2.1).bind fun t660 => (some t660)) else (none))) else (none)) else (none))) else (none)) else (none))) else (none)))))))))))) = some r := h
 clear h
 replace H := bi_ H; obtain ⟨t601, A2, H⟩ := H
 replace H := itb_ H; obtain ⟨rfl, H⟩ | ⟨rfl, H⟩ := H
 ·obtain rfl := Option.some.inj H
  go_enter Try.func3, Try.ntmps3
  go_wp2_with (first | ((with_reducible refine gq_ 10 11 ?_); refine gc_ 11 Try.func10 (laws_big.calls _ _ l0 true _ (cr_ HR0.out) HC0.out A2.out) ?_; rintro e w' ⟨rfl, ⟨nd, rfl⟩⟩; refine ⟨_, rfl, ?_⟩))
  go_ret
  exact ⟨e2_, bw_ HB⟩
 ·replace H := bi_ H; obtain ⟨⟨t602, t603⟩, A4, H⟩ := H
  dsimp only at H
  replace H := bi_ H; obtain ⟨⟨t606, t607⟩, A5, H⟩ := H
  dsimp only at H
  replace H := bi_ H; obtain ⟨⟨t609, t612, t613⟩, A6, H⟩ := H
  dsimp only at H
  obtain ⟨y614, hy614⟩ : ∃ y_ : List (S28), y_ = (([(⟨t606, t607⟩ : S28)] : List (S28))) := ⟨_, rfl⟩
  replace H : ((impl_Extend.f k t609 t612 t613 y614 t606 t607 t602).bind fun bt617 => ((impl_StoreNew.f k).bind fun bt624 => ((impl_Commit.f k bt624.1 bt624.2.1 bt624.2.2.1 bt624.2.2.2.1 bt624.2.2.2.2 (([(⟨t606, t607⟩ : S28)] : List (S28))) t606 t607 t602).bind fun bt636 => ((impl_LogNew.f k).bind fun bt647 => ((impl_LogOk.f k bt647.1 bt647.2.1 bt647.2.2).bind fun t652 => (if t652 = true then ((impl_LogNew.f k).bind fun bt653 => (if (bt653.1.length : Int) = 0 then (if bt617.2.2.2 = 0 then ((laws_sameTexts.f k bt617.1 t602).bind fun t658 => (if t658 = true then (if bt636.2.2.2.2.2 = 0 then ((laws_sameTexts.f k bt636.1 t602).bind fun t659 => (if t659 = true then ((impl_StoreOk.f k bt636.1 bt636.2.1 bt636.2.2.1 bt636.2.2.2.1 bt636.2.2.2.2.1).bind fun t660 => (some t660)) else (none))) else (none)) else (none))) else (none)) else (none))) else (none))))))) = some r := yh_ hy614 H
  have Ny614 := Aside0.mk hy614
  clear hy614
  replace H := bi_ H; obtain ⟨⟨t617, t620, t621, t622⟩, A7, H⟩ := H
  dsimp only at H
  replace H := bi_ H; obtain ⟨⟨t624, t627, t628, t629, t632⟩, A8, H⟩ := H
  dsimp only at H
  obtain ⟨y633, hy633⟩ : ∃ y_ : List (S28), y_ = (([(⟨t606, t607⟩ : S28)] : List (S28))) := ⟨_, rfl⟩
  replace H : ((impl_Commit.f k t624 t627 t628 t629 t632 y633 t606 t607 t602).bind fun bt636 => ((impl_LogNew.f k).bind fun bt647 => ((impl_LogOk.f k bt647.1 bt647.2.1 bt647.2.2).bind fun t652 => (if t652 = true then ((impl_LogNew.f k).bind fun bt653 => (if (bt653.1.length : Int) = 0 then (if t622 = 0 then ((laws_sameTexts.f k t617 t602).bind fun t658 => (if t658 = true then (if bt636.2.2.2.2.2 = 0 then ((laws_sameTexts.f k bt636.1 t602).bind fun t659 => (if t659 = true then ((impl_StoreOk.f k bt636.1 bt636.2.1 bt636.2.2.1 bt636.2.2.2.1 bt636.2.2.2.2.1).bind fun t660 => (some t660)) else (none))) else (none)) else (none))) else (none)) else (none))) else (none))))) = some r := yh_ hy633 H
  have Ny633 := Aside0.mk hy633
  clear hy633
  replace H := bi_ H; obtain ⟨⟨t636, t639, t640, t641, t644, t645⟩, A9, H⟩ := H
  dsimp only at H
  replace H := bi_ H; obtain ⟨⟨t647, t650, t651⟩, A10, H⟩ := H
  dsimp only at H
  replace H := bi_ H; obtain ⟨t652, A11, H⟩ := H
  replace H := ipb_ H; obtain ⟨rfl, H⟩ := H
  replace H := bi_ H; obtain ⟨⟨t653, t656, t657⟩, A13, H⟩ := H
  dsimp only at H
  replace H := ip_ H; obtain ⟨c14, H⟩ := H
  have c14b0 : ((t653.length : Int) == 0) = true := beq_iff_eq.mpr c14
  have c14b1 : ((t653.length : Int) != 0) = false := bne_eq_false_iff_eq.mpr c14
  clear c14
  replace H := ip_ H; obtain ⟨c15, H⟩ := H
  have c15b0 : (t622 == 0) = true := beq_iff_eq.mpr c15
  have c15b1 : (t622 != 0) = false := bne_eq_false_iff_eq.mpr c15
  clear c15
  replace H := bi_ H; obtain ⟨t658, A16, H⟩ := H
  replace H := ipb_ H; obtain ⟨rfl, H⟩ := H
  replace H := ip_ H; obtain ⟨c18, H⟩ := H
  have c18b0 : (t645 == 0) = true := beq_iff_eq.mpr c18
  have c18b1 : (t645 != 0) = false := bne_eq_false_iff_eq.mpr c18
  clear c18
  replace H := bi_ H; obtain ⟨t659, A19, H⟩ := H
  replace H := ipb_ H; obtain ⟨rfl, H⟩ := H
  replace H := bi_ H; obtain ⟨t660, A21, H⟩ := H
  obtain rfl := Option.some.inj H
  go_enter Try.func3, Try.ntmps3
  try go_wp2_with (first | ((with_reducible refine gq_ 10 11 ?_); refine gc_ 11 Try.func10 (laws_big.calls _ _ l0 false _ (cr_ HR0.out) HC0.out A2.out) ?_; rintro e w' ⟨rfl, ⟨nd, rfl⟩⟩; refine ⟨_, rfl, ?_⟩) | ((with_reducible refine gq_ 11 14 ?_); refine gc_ 14 Try.func11 (spec_DrawLeaves.calls k _ _ l0 t602 t603 _ (cr_ HR0.out) HC0.out A4.out) ?_; rintro e w22 ⟨v604, rfl, ho0, hb⟩; refine ⟨_, rfl, ?_⟩; have HO605 := Aside0.mk (Kd.R_lower ho0 (sz_ HB)); replace HB := ss_ HB hb; clear hb ho0; obtain ⟨Ao23, co23, eo23⟩ := Kd.R_slice HO605.out; subst eo23) | ((with_reducible refine gq_ 12 18 ?_); refine gc_ 18 Try.func12 (impl_HeadOf.calls k _ _ t602 t606 t607 _ (ch_ HO605) (cl_ HO605) A5.out) ?_; rintro e w24 ⟨rfl, hb⟩; refine ⟨_, rfl, ?_⟩; replace HO605 := rb_ HO605 hb; replace HB := ss_ HB hb; clear hb) | ((with_reducible refine gd_ 5 ?_); (try (refine gate_guard (by rfl) ?_; dsimp only)); refine bx_ 5 28 #[.int .i64 0, .string (⟨#[]⟩ : ByteArray)] ?_; intro gb608 hg w25 hbox hb; replace HO605 := rb_ HO605 hb; have BK608 := Aside0.mk hbox; have GW608 := gg_ hg HB; have GE608 := GW608; replace HB := ss_ HB hb; clear hb hbox hg; have hz26 := cz2_ BK608))
  have n0_ : Aside0 (Kd.R Kd.string 9 ((w25.setCell ⟨gb608, 0, none⟩ (.int .i64 t606)).setCell ⟨gb608, 1, none⟩ (.string t607)) w.heap.size (fun _ => True) (.slice Ao23 t602.length co23) t602) := ⟨by (with_reducible repeat (first | apply Kd.R_alloc | apply Kd.R_drewN | apply Kd.R_drew)); exact Kd.R_mono (Kd.R_far (p := ⟨gb608, 1, none⟩) (Kd.R_far (p := ⟨gb608, 0, none⟩) (Kd.R_types HO605.out BK608.out (by decide)) (fun _ hk => hk.2) (.int .i64 t606)) (fun _ hk => hk.2) (.string t607)) (fun _ hk => trivial)⟩
  have n1_ : Aside0 (((w25.setCell ⟨gb608, 0, none⟩ (.int .i64 t606)).setCell ⟨gb608, 1, none⟩ (.string t607)).heap[gb608]? = some (.cells #[.int .i64 t606, .string t607] 28 (0, 0))) := ⟨kq_ BK608⟩
  have n2_ : Aside0 (Below w.heap.size w ((w25.setCell ⟨gb608, 0, none⟩ (.int .i64 t606)).setCell ⟨gb608, 1, none⟩ (.string t607))) := ⟨bw_ HB⟩
  generalize ((w25.setCell ⟨gb608, 0, none⟩ (.int .i64 t606)).setCell ⟨gb608, 1, none⟩ (.string t607)) = w27 at n0_ n1_ n2_ ⊢
  have HO605 := n0_
  have BK608 := n1_
  have HB := n2_
  clear n0_ n1_ n2_
  replace HO605 := Aside0.mk (Kd.R_drew HO605.out)
  replace BK608 := Aside0.mk (blk_drew BK608.out)
  replace HB := Aside0.mk (below_drew1 HB.out)
  refine start_ (n := 12) (S := fun w' => w'.cell? ⟨gb608, 0, none⟩ = some (.int .i64 t606) ∧ w'.cell? ⟨gb608, 1, none⟩ = some (.string t607)) (ds := []) (lz_ 12 0) (by kernel_rfl) rfl rfl ⟨bc0_ BK608.out, bc1_ BK608.out⟩ (fun hHeld => ?_); refine with_tabW laws_FnNew.tab5 laws_FnNew.bits5 (fun HT_ HW_ => ?_)
  generalize w27.drew = w28 at HO605 BK608 HB hHeld ⊢
  refine pt_ 4 24 16 ?_
  refine tt_ 1 21 18 ?_
  refine tt_ 3 23 26 ?_
  refine join_ (σ := Value × Value × Value × Nat) 2 (lz_ 12 1023) (fun s_ => [(20, .agg #[s_.1, .int .i64 t612, .string t613]), (22, s_.2.1), (25, .tuple #[.agg #[s_.2.2.1, .int .i64 t620, .string t621], .int .i64 t622]), (6, .pointer (some ⟨s_.2.2.2, 0, none⟩)), (19, .tuple #[.agg #[s_.2.2.1, .int .i64 t620, .string t621], .int .i64 t622]), (26, .agg #[s_.2.2.1, .int .i64 t620, .string t621]), (27, .int .i64 t622)]) (fun s_ w' => (w'.cell? ⟨gb608, 0, none⟩ = some (.int .i64 t606) ∧ w'.cell? ⟨gb608, 1, none⟩ = some (.string t607)) ∧ (Kd.R Kd.string 9 w' w.heap.size (fun k_ => some k_ ≠ (s_.1 : Value).ownBlock ∧ some k_ ≠ (s_.2.2.1 : Value).ownBlock) (.slice Ao23 t602.length co23) t602) ∧ (Kd.R Kd.string 9 w' w.heap.size (fun k_ => some k_ ≠ (.slice Ao23 t602.length co23 : Value).ownBlock ∧ some k_ ≠ (s_.2.2.1 : Value).ownBlock) s_.1 t609) ∧ (Kd.R k28 28 w' w.heap.size (fun k_ => k_ ≠ gb608) s_.2.1 y614) ∧ (Kd.R Kd.string 9 w' w.heap.size (fun k_ => some k_ ≠ (.slice Ao23 t602.length co23 : Value).ownBlock ∧ some k_ ≠ (s_.1 : Value).ownBlock) s_.2.2.1 t617) ∧ (w'.heap[gb608]? = some (.cells #[.int .i64 t606, .string t607] 28 (0, 0))) ∧ (w'.heap[s_.2.2.2]? = some (.cells #[.slice none 0 0, .int .i64 0, .string (⟨#[]⟩ : ByteArray)] 31 (0, 0))) ∧ (w.heap.size ≤ s_.2.2.2) ∧ (w.heap.size ≤ s_.2.2.2) ∧ (gb608 ≠ s_.2.2.2) ∧ (s_.2.2.2 ≠ gb608) ∧ (Below w.heap.size w w')) ?_ ?_
  rotate_left
  ·intro hJ0_2_5_9
   refine join_ (σ := Value × Value × Value) 3 (lz_ 12 511) (fun s_ => [(20, .agg #[s_.1, .int .i64 t612, .string t613]), (22, s_.2.1), (25, .tuple #[.agg #[s_.2.2, .int .i64 t620, .string t621], .int .i64 t622]), (19, .tuple #[.agg #[s_.2.2, .int .i64 t620, .string t621], .int .i64 t622]), (26, .agg #[s_.2.2, .int .i64 t620, .string t621]), (27, .int .i64 t622)]) (fun s_ w' => Aside0 (Kd.R Kd.string 9 w' w.heap.size (fun k_ => some k_ ≠ (s_.1 : Value).ownBlock ∧ some k_ ≠ (s_.2.2 : Value).ownBlock) (.slice Ao23 t602.length co23) t602) ∧ Aside0 (Kd.R Kd.string 9 w' w.heap.size (fun k_ => some k_ ≠ (.slice Ao23 t602.length co23 : Value).ownBlock ∧ some k_ ≠ (s_.2.2 : Value).ownBlock) s_.1 t609) ∧ Aside0 (Kd.R k28 28 w' w.heap.size (fun k_ => k_ ≠ gb608) s_.2.1 y614) ∧ Aside0 (Kd.R Kd.string 9 w' w.heap.size (fun k_ => some k_ ≠ (.slice Ao23 t602.length co23 : Value).ownBlock ∧ some k_ ≠ (s_.1 : Value).ownBlock) s_.2.2 t617) ∧ Aside0 (w'.heap[gb608]? = some (.cells #[.int .i64 t606, .string t607] 28 (0, 0))) ∧ Aside0 (Below w.heap.size w w')) ?_ ?_
   rotate_left
   ·intro hJ0_2_5
    refine join_ (σ := Value × Value × Nat) 6 (lz_ 12 543) (fun s_ => [(20, .agg #[s_.1, .int .i64 t612, .string t613]), (22, s_.2.1), (6, .pointer (some ⟨s_.2.2, 0, none⟩))]) (fun s_ w' => Aside0 (Kd.R Kd.string 9 w' w.heap.size (fun k_ => some k_ ≠ (s_.1 : Value).ownBlock) (.slice Ao23 t602.length co23) t602) ∧ Aside0 (Kd.R Kd.string 9 w' w.heap.size (fun k_ => some k_ ≠ (.slice Ao23 t602.length co23 : Value).ownBlock) s_.1 t609) ∧ Aside0 (Kd.R k28 28 w' w.heap.size (fun k_ => k_ ≠ gb608) s_.2.1 y614) ∧ Aside0 (w'.heap[gb608]? = some (.cells #[.int .i64 t606, .string t607] 28 (0, 0))) ∧ Aside0 (w'.heap[s_.2.2]? = some (.cells #[.slice none 0 0, .int .i64 0, .string (⟨#[]⟩ : ByteArray)] 31 (0, 0))) ∧ Aside0 (w.heap.size ≤ s_.2.2) ∧ Aside0 (w.heap.size ≤ s_.2.2) ∧ Aside0 (gb608 ≠ s_.2.2) ∧ Aside0 (s_.2.2 ≠ gb608) ∧ Aside0 (Below w.heap.size w w')) ?_ ?_
    rotate_left
    ·intro hJ0_2_9
     refine join_ (σ := Value × Value) 7 (lz_ 12 31) (fun s_ => [(20, .agg #[s_.1, .int .i64 t612, .string t613]), (22, s_.2)]) (fun s_ w' => Aside0 (Kd.R Kd.string 9 w' w.heap.size (fun k_ => some k_ ≠ (s_.1 : Value).ownBlock) (.slice Ao23 t602.length co23) t602) ∧ Aside0 (Kd.R Kd.string 9 w' w.heap.size (fun k_ => some k_ ≠ (.slice Ao23 t602.length co23 : Value).ownBlock) s_.1 t609) ∧ Aside0 (Kd.R k28 28 w' w.heap.size (fun k_ => k_ ≠ gb608) s_.2 y614) ∧ Aside0 (w'.heap[gb608]? = some (.cells #[.int .i64 t606, .string t607] 28 (0, 0))) ∧ Aside0 (Below w.heap.size w w')) ?_ ?_
     rotate_left
     ·intro hJ0_2
      refine join_ (σ := Value × Nat) 7 (lz_ 12 539) (fun s_ => [(20, .agg #[s_.1, .int .i64 t612, .string t613]), (6, .pointer (some ⟨s_.2, 0, none⟩))]) (fun s_ w' => Aside0 (Kd.R Kd.string 9 w' w.heap.size (fun k_ => some k_ ≠ (s_.1 : Value).ownBlock) (.slice Ao23 t602.length co23) t602) ∧ Aside0 (Kd.R Kd.string 9 w' w.heap.size (fun k_ => some k_ ≠ (.slice Ao23 t602.length co23 : Value).ownBlock) s_.1 t609) ∧ Aside0 (w'.heap[gb608]? = some (.cells #[.int .i64 t606, .string t607] 28 (0, 0))) ∧ Aside0 (w'.heap[s_.2]? = some (.cells #[.slice none 0 0, .int .i64 0, .string (⟨#[]⟩ : ByteArray)] 31 (0, 0))) ∧ Aside0 (w.heap.size ≤ s_.2) ∧ Aside0 (w.heap.size ≤ s_.2) ∧ Aside0 (gb608 ≠ s_.2) ∧ Aside0 (s_.2 ≠ gb608) ∧ Aside0 (Below w.heap.size w w')) ?_ ?_
      rotate_left
      ·intro hJ0_9
       refine join_ (σ := Value × Nat) 7 (lz_ 12 542) (fun s_ => [(22, s_.1), (6, .pointer (some ⟨s_.2, 0, none⟩))]) (fun s_ w' => Aside0 (Kd.R Kd.string 9 w' w.heap.size (fun _ => True) (.slice Ao23 t602.length co23) t602) ∧ Aside0 (Kd.R k28 28 w' w.heap.size (fun k_ => k_ ≠ gb608) s_.1 y614) ∧ Aside0 (w'.heap[gb608]? = some (.cells #[.int .i64 t606, .string t607] 28 (0, 0))) ∧ Aside0 (w'.heap[s_.2]? = some (.cells #[.slice none 0 0, .int .i64 0, .string (⟨#[]⟩ : ByteArray)] 31 (0, 0))) ∧ Aside0 (w.heap.size ≤ s_.2) ∧ Aside0 (w.heap.size ≤ s_.2) ∧ Aside0 (gb608 ≠ s_.2) ∧ Aside0 (s_.2 ≠ gb608) ∧ Aside0 (Below w.heap.size w w')) ?_ ?_
       rotate_left
       ·intro hJ2_9
        refine join_ (σ := Value) 8 (lz_ 12 27) (fun s_ => [(20, .agg #[s_, .int .i64 t612, .string t613])]) (fun s_ w' => Aside0 (Kd.R Kd.string 9 w' w.heap.size (fun k_ => some k_ ≠ (s_ : Value).ownBlock) (.slice Ao23 t602.length co23) t602) ∧ Aside0 (Kd.R Kd.string 9 w' w.heap.size (fun k_ => some k_ ≠ (.slice Ao23 t602.length co23 : Value).ownBlock) s_ t609) ∧ Aside0 (w'.heap[gb608]? = some (.cells #[.int .i64 t606, .string t607] 28 (0, 0))) ∧ Aside0 (Below w.heap.size w w')) ?_ ?_
        rotate_left
        ·intro hJ0
         refine join_ (σ := Value) 8 (lz_ 12 30) (fun s_ => [(22, s_)]) (fun s_ w' => Aside0 (Kd.R Kd.string 9 w' w.heap.size (fun _ => True) (.slice Ao23 t602.length co23) t602) ∧ Aside0 (Kd.R k28 28 w' w.heap.size (fun k_ => k_ ≠ gb608) s_ y614) ∧ Aside0 (w'.heap[gb608]? = some (.cells #[.int .i64 t606, .string t607] 28 (0, 0))) ∧ Aside0 (Below w.heap.size w w')) ?_ ?_
         rotate_left
         ·intro hJ2
          refine join_ (σ := Nat) 8 (lz_ 12 538) (fun s_ => [(6, .pointer (some ⟨s_, 0, none⟩))]) (fun s_ w' => Aside0 (Kd.R Kd.string 9 w' w.heap.size (fun _ => True) (.slice Ao23 t602.length co23) t602) ∧ Aside0 (w'.heap[gb608]? = some (.cells #[.int .i64 t606, .string t607] 28 (0, 0))) ∧ Aside0 (w'.heap[s_]? = some (.cells #[.slice none 0 0, .int .i64 0, .string (⟨#[]⟩ : ByteArray)] 31 (0, 0))) ∧ Aside0 (w.heap.size ≤ s_) ∧ Aside0 (w.heap.size ≤ s_) ∧ Aside0 (gb608 ≠ s_) ∧ Aside0 (s_ ≠ gb608) ∧ Aside0 (Below w.heap.size w w')) ?_ ?_
          rotate_left
          ·intro hJ9
           refine three_ (i := 0) (j := 2) (k := 9) (Ni := some 20) (Nj := some 22) (Nk := some 6) (lz_ 12 27) (lz_ 12 30) (lz_ 12 538) rfl rfl rfl rfl rfl rfl (three_of HT_.out (by kernel_rfl)) (by decide) (by decide) (by decide) (fun K hK => ?_) (fun K hK => ?_) (fun K hK => ?_)
           ·skip
            refine gf_ Try.func14 (impl_LogNew.calls k  t609 t612 t613 _ A6.out) ?_
            rintro e w29 ⟨v610, rfl, ho0, hb⟩
            refine ⟨_, rfl, ?_⟩
            have HO611 := Aside0.mk (Kd.R_lower (Kd.R_new' ho0 (lt_ HO605)) (sz_ HB))
            replace HO605 := re_ HO605 ho0 hb
            replace BK608 := kl_ BK608 hb
            replace HB := ss_ HB hb
            clear hb ho0
            refine hK.out _ _ ⟨bc0_ BK608.out, bc1_ BK608.out⟩ (fun hHeld => ?_)
            clear hK K
            refine no_ 20 ?_
            exact nj_ (hJ0 (v610) _ ⟨⟨kr_ (Kd.R_mono HO605.out (fun _ hk => hk.2))⟩, ⟨kr_ (Kd.R_mono HO611.out (fun _ hk => hk.2))⟩, ⟨kb_ BK608.out⟩, ⟨bw_ HB⟩⟩)
           ·skip
            refine Kd.R_lit_step k28 _ 28 ?hg (N := 22) ?hd (xs := ([(⟨t606, t607⟩ : S28)] : List (S28))) (inner := [.int .i64 t606, .string t607]) (ok := fun _ => True) (okp := fun _ => True) ?hr ?hp (fun _ hk => hk) trivial (Below.refl _ _) (Nat.le_refl _) (by simp) ?_; (case hd => rfl); (case hg => rfl); (case hr => first | (go_simp; done) | (go_simp; rfl)); (case hp => exact (Reps.c2 (show Kd.M k28 _ _ _ (⟨t606, t607⟩ : S28) [.int .i64 t606, .string t607] from (k28_mkM _ _ _ (⟨t606, t607⟩ : S28) )) (Reps.none _ _)))
            intro v615 w29 ho30 hb hg_ hnew_
            clear hg_ hnew_
            (first | rw [← Ny614.out] at ho30 | (simp only [Int.reduceToNat] at ho30; rw [← Ny614.out] at ho30))
            replace HO605 := rb_ HO605 hb
            have HO616 := Aside0.mk (Kd.R_lower (Kd.R_newB ho30 (kb_ BK608.out)) (sz_ HB))
            replace BK608 := kl_ BK608 hb
            replace HB := ss_ HB hb
            clear hb ho30
            refine hK.out _ _ ⟨bc0_ BK608.out, bc1_ BK608.out⟩ (fun hHeld => ?_)
            clear hK K
            refine no_ 22 ?_
            exact nj_ (hJ2 (v615) _ ⟨⟨kr_ HO605.out⟩, ⟨kr_ (Kd.R_mono HO616.out (fun _ hk => hk.2))⟩, ⟨kb_ BK608.out⟩, ⟨bw_ HB⟩⟩)
           ·skip
            refine box_step ?hg (N := 6) ?hd (cs := #[.slice none 0 0, .int .i64 0, .string (⟨#[]⟩ : ByteArray)]) (t := 31) ?hr ?_; (case hd => rfl); (case hg => rfl); (case hr => first | (go_simp; done) | (go_simp; rfl))
            intro gb623 hg w29 hbox hb
            replace HO605 := rb_ HO605 hb
            have BK623 := Aside0.mk hbox
            have GW623 := gg_ hg HB
            have GE623 := GW623
            replace HB := ss_ HB hb
            have NB608_623 := nla_ hg BK608
            have NB623_608 := nga_ hg BK608
            replace BK608 := kl_ BK608 hb
            clear hb hbox hg
            refine hK.out _ _ ⟨bc0_ BK608.out, bc1_ BK608.out⟩ (fun hHeld => ?_)
            clear hK K
            refine no_ 6 ?_
            exact nj_ (hJ9 (gb623) _ ⟨⟨kr_ HO605.out⟩, ⟨kb_ BK608.out⟩, ⟨kb_ BK623.out⟩, GW623, GE623, NB608_623, NB623_608, ⟨bw_ HB⟩⟩)
          ·clear HO605 BK608 HB
           rintro gb623 w30 ⟨HO605, BK608, BK623, GW623, GE623, NB608_623, NB623_608, HB⟩
           have hHeld := hn2_ (bc0_ BK608.out) (bc1_ BK608.out)
           refine nj_ ?_
           refine two_ (i := 0) (j := 2) (Ni := some 20) (Nj := some 22) (lz_ 12 539) (lz_ 12 542) rfl rfl rfl rfl (two_of HT_.out (by kernel_rfl)) (by decide) (by decide) (fun K hK => ?_) (fun K hK => ?_)
           ·skip
            refine gf_ Try.func14 (impl_LogNew.calls k  t609 t612 t613 _ A6.out) ?_
            rintro e w31 ⟨v610, rfl, ho0, hb⟩
            refine ⟨_, rfl, ?_⟩
            have HO611 := Aside0.mk (Kd.R_lower (Kd.R_new' ho0 (lt_ HO605)) (sz_ HB))
            replace HO605 := re_ HO605 ho0 hb
            replace BK608 := kl_ BK608 hb
            replace BK623 := kl_ BK623 hb
            replace HB := ss_ HB hb
            clear hb ho0
            refine hK.out _ _ ⟨bc0_ BK608.out, bc1_ BK608.out⟩ (fun hHeld => ?_)
            clear hK K
            refine no_ 20 ?_
            exact nj_ (hJ0_9 (v610, gb623) _ ⟨⟨kr_ (Kd.R_mono HO605.out (fun _ hk => hk.2))⟩, ⟨kr_ (Kd.R_mono HO611.out (fun _ hk => hk.2))⟩, ⟨kb_ BK608.out⟩, ⟨kb_ BK623.out⟩, GW623, GE623, NB608_623, NB623_608, ⟨bw_ HB⟩⟩)
           ·skip
            refine Kd.R_lit_step k28 _ 28 ?hg (N := 22) ?hd (xs := ([(⟨t606, t607⟩ : S28)] : List (S28))) (inner := [.int .i64 t606, .string t607]) (ok := fun _ => True) (okp := fun _ => True) ?hr ?hp (fun _ hk => hk) trivial (Below.refl _ _) (Nat.le_refl _) (by simp) ?_; (case hd => rfl); (case hg => rfl); (case hr => first | (go_simp; done) | (go_simp; rfl)); (case hp => exact (Reps.c2 (show Kd.M k28 _ _ _ (⟨t606, t607⟩ : S28) [.int .i64 t606, .string t607] from (k28_mkM _ _ _ (⟨t606, t607⟩ : S28) )) (Reps.none _ _)))
            intro v615 w31 ho32 hb hg_ hnew_
            clear hg_ hnew_
            (first | rw [← Ny614.out] at ho32 | (simp only [Int.reduceToNat] at ho32; rw [← Ny614.out] at ho32))
            replace HO605 := rb_ HO605 hb
            have HO616 := Aside0.mk (Kd.R_lower (Kd.R_newB ho32 (kb_ BK608.out)) (sz_ HB))
            replace BK608 := kl_ BK608 hb
            replace BK623 := kl_ BK623 hb
            replace HB := ss_ HB hb
            clear hb ho32
            refine hK.out _ _ ⟨bc0_ BK608.out, bc1_ BK608.out⟩ (fun hHeld => ?_)
            clear hK K
            refine no_ 22 ?_
            exact nj_ (hJ2_9 (v615, gb623) _ ⟨⟨kr_ HO605.out⟩, ⟨kr_ (Kd.R_mono HO616.out (fun _ hk => hk.2))⟩, ⟨kb_ BK608.out⟩, ⟨kb_ BK623.out⟩, GW623, GE623, NB608_623, NB623_608, ⟨bw_ HB⟩⟩)
         ·clear HO605 BK608 HB
          rintro v615 w31 ⟨HO605, HO616, BK608, HB⟩
          have hHeld := hn2_ (bc0_ BK608.out) (bc1_ BK608.out)
          refine nj_ ?_
          refine two_ (i := 0) (j := 9) (Ni := some 20) (Nj := some 6) (lz_ 12 31) (lz_ 12 542) rfl rfl rfl rfl (two_of HT_.out (by kernel_rfl)) (by decide) (by decide) (fun K hK => ?_) (fun K hK => ?_)
          ·skip
           refine gf_ Try.func14 (impl_LogNew.calls k  t609 t612 t613 _ A6.out) ?_
           rintro e w32 ⟨v610, rfl, ho0, hb⟩
           refine ⟨_, rfl, ?_⟩
           replace HO616 := rb_ HO616 hb
           have HO611 := Aside0.mk (Kd.R_lower (Kd.R_new' ho0 (lt_ HO605)) (sz_ HB))
           replace HO605 := re_ HO605 ho0 hb
           replace BK608 := kl_ BK608 hb
           replace HB := ss_ HB hb
           clear hb ho0
           refine hK.out _ _ ⟨bc0_ BK608.out, bc1_ BK608.out⟩ (fun hHeld => ?_)
           clear hK K
           refine no_ 20 ?_
           exact nj_ (hJ0_2 (v610, v615) _ ⟨⟨kr_ (Kd.R_mono HO605.out (fun _ hk => hk.2))⟩, ⟨kr_ (Kd.R_mono HO611.out (fun _ hk => hk.2))⟩, ⟨kr_ HO616.out⟩, ⟨kb_ BK608.out⟩, ⟨bw_ HB⟩⟩)
          ·skip
           refine box_step ?hg (N := 6) ?hd (cs := #[.slice none 0 0, .int .i64 0, .string (⟨#[]⟩ : ByteArray)]) (t := 31) ?hr ?_; (case hd => rfl); (case hg => rfl); (case hr => first | (go_simp; done) | (go_simp; rfl))
           intro gb623 hg w32 hbox hb
           replace HO605 := rb_ HO605 hb
           replace HO616 := rb_ HO616 hb
           have BK623 := Aside0.mk hbox
           have GW623 := gg_ hg HB
           have GE623 := GW623
           replace HB := ss_ HB hb
           have NB608_623 := nla_ hg BK608
           have NB623_608 := nga_ hg BK608
           replace BK608 := kl_ BK608 hb
           clear hb hbox hg
           refine hK.out _ _ ⟨bc0_ BK608.out, bc1_ BK608.out⟩ (fun hHeld => ?_)
           clear hK K
           refine no_ 6 ?_
           exact nj_ (hJ2_9 (v615, gb623) _ ⟨⟨kr_ HO605.out⟩, ⟨kr_ HO616.out⟩, ⟨kb_ BK608.out⟩, ⟨kb_ BK623.out⟩, GW623, GE623, NB608_623, NB623_608, ⟨bw_ HB⟩⟩)
        ·clear HO605 BK608 HB
         rintro v610 w30 ⟨HO605, HO611, BK608, HB⟩
         have hHeld := hn2_ (bc0_ BK608.out) (bc1_ BK608.out)
         refine nj_ ?_
         refine two_ (i := 2) (j := 9) (Ni := some 22) (Nj := some 6) (lz_ 12 31) (lz_ 12 539) rfl rfl rfl rfl (two_of HT_.out (by kernel_rfl)) (by decide) (by decide) (fun K hK => ?_) (fun K hK => ?_)
         ·skip
          refine Kd.R_lit_step k28 _ 28 ?hg (N := 22) ?hd (xs := ([(⟨t606, t607⟩ : S28)] : List (S28))) (inner := [.int .i64 t606, .string t607]) (ok := fun _ => True) (okp := fun _ => True) ?hr ?hp (fun _ hk => hk) trivial (Below.refl _ _) (Nat.le_refl _) (by simp) ?_; (case hd => rfl); (case hg => rfl); (case hr => first | (go_simp; done) | (go_simp; rfl)); (case hp => exact (Reps.c2 (show Kd.M k28 _ _ _ (⟨t606, t607⟩ : S28) [.int .i64 t606, .string t607] from (k28_mkM _ _ _ (⟨t606, t607⟩ : S28) )) (Reps.none _ _)))
          intro v615 w31 ho32 hb hg_ hnew_
          clear hg_ hnew_
          (first | rw [← Ny614.out] at ho32 | (simp only [Int.reduceToNat] at ho32; rw [← Ny614.out] at ho32))
          replace HO605 := rb_ HO605 hb
          replace HO611 := rb_ HO611 hb
          have HO616 := Aside0.mk (Kd.R_lower (Kd.R_newB ho32 (kb_ BK608.out)) (sz_ HB))
          replace BK608 := kl_ BK608 hb
          replace HB := ss_ HB hb
          clear hb ho32
          refine hK.out _ _ ⟨bc0_ BK608.out, bc1_ BK608.out⟩ (fun hHeld => ?_)
          clear hK K
          refine no_ 22 ?_
          exact nj_ (hJ0_2 (v610, v615) _ ⟨⟨kr_ HO605.out⟩, ⟨kr_ HO611.out⟩, ⟨kr_ (Kd.R_mono HO616.out (fun _ hk => hk.2))⟩, ⟨kb_ BK608.out⟩, ⟨bw_ HB⟩⟩)
         ·skip
          refine box_step ?hg (N := 6) ?hd (cs := #[.slice none 0 0, .int .i64 0, .string (⟨#[]⟩ : ByteArray)]) (t := 31) ?hr ?_; (case hd => rfl); (case hg => rfl); (case hr => first | (go_simp; done) | (go_simp; rfl))
          intro gb623 hg w31 hbox hb
          replace HO605 := rb_ HO605 hb
          replace HO611 := rb_ HO611 hb
          have BK623 := Aside0.mk hbox
          have GW623 := gg_ hg HB
          have GE623 := GW623
          replace HB := ss_ HB hb
          have NB608_623 := nla_ hg BK608
          have NB623_608 := nga_ hg BK608
          replace BK608 := kl_ BK608 hb
          clear hb hbox hg
          refine hK.out _ _ ⟨bc0_ BK608.out, bc1_ BK608.out⟩ (fun hHeld => ?_)
          clear hK K
          refine no_ 6 ?_
          exact nj_ (hJ0_9 (v610, gb623) _ ⟨⟨kr_ HO605.out⟩, ⟨kr_ HO611.out⟩, ⟨kb_ BK608.out⟩, ⟨kb_ BK623.out⟩, GW623, GE623, NB608_623, NB623_608, ⟨bw_ HB⟩⟩)
       ·clear HO605 BK608 HB
        rintro ⟨v615, gb623⟩ w32 ⟨HO605, HO616, BK608, BK623, GW623, GE623, NB608_623, NB623_608, HB⟩
        dsimp only at HO616 BK623 GW623 GE623 NB608_623 NB623_608
        have hHeld := hn2_ (bc0_ BK608.out) (bc1_ BK608.out)
        refine nj_ ?_
        refine one_ (i := 0) (N := some 20) (lz_ 12 543) rfl rfl (one_of HT_.out (by kernel_rfl)) (by decide) (fun K hK => ?_)
        refine gf_ Try.func14 (impl_LogNew.calls k  t609 t612 t613 _ A6.out) ?_
        rintro e w33 ⟨v610, rfl, ho0, hb⟩
        refine ⟨_, rfl, ?_⟩
        replace HO616 := rb_ HO616 hb
        have HO611 := Aside0.mk (Kd.R_lower (Kd.R_new' ho0 (lt_ HO605)) (sz_ HB))
        replace HO605 := re_ HO605 ho0 hb
        replace BK608 := kl_ BK608 hb
        replace BK623 := kl_ BK623 hb
        replace HB := ss_ HB hb
        clear hb ho0
        refine hK.out _ _ ⟨bc0_ BK608.out, bc1_ BK608.out⟩ (fun hHeld => ?_)
        clear hK K
        refine no_ 20 ?_
        exact nj_ (hJ0_2_9 (v610, v615, gb623) _ ⟨⟨kr_ (Kd.R_mono HO605.out (fun _ hk => hk.2))⟩, ⟨kr_ (Kd.R_mono HO611.out (fun _ hk => hk.2))⟩, ⟨kr_ HO616.out⟩, ⟨kb_ BK608.out⟩, ⟨kb_ BK623.out⟩, GW623, GE623, NB608_623, NB623_608, ⟨bw_ HB⟩⟩)
      ·clear HO605 BK608 HB
       rintro ⟨v610, gb623⟩ w31 ⟨HO605, HO611, BK608, BK623, GW623, GE623, NB608_623, NB623_608, HB⟩
       dsimp only at HO605 HO611 BK623 GW623 GE623 NB608_623 NB623_608
       have hHeld := hn2_ (bc0_ BK608.out) (bc1_ BK608.out)
       refine nj_ ?_
       refine one_ (i := 2) (N := some 22) (lz_ 12 543) rfl rfl (one_of HT_.out (by kernel_rfl)) (by decide) (fun K hK => ?_)
       refine Kd.R_lit_step k28 _ 28 ?hg (N := 22) ?hd (xs := ([(⟨t606, t607⟩ : S28)] : List (S28))) (inner := [.int .i64 t606, .string t607]) (ok := fun _ => True) (okp := fun _ => True) ?hr ?hp (fun _ hk => hk) trivial (Below.refl _ _) (Nat.le_refl _) (by simp) ?_; (case hd => rfl); (case hg => rfl); (case hr => first | (go_simp; done) | (go_simp; rfl)); (case hp => exact (Reps.c2 (show Kd.M k28 _ _ _ (⟨t606, t607⟩ : S28) [.int .i64 t606, .string t607] from (k28_mkM _ _ _ (⟨t606, t607⟩ : S28) )) (Reps.none _ _)))
       intro v615 w32 ho33 hb hg_ hnew_
       clear hg_ hnew_
       (first | rw [← Ny614.out] at ho33 | (simp only [Int.reduceToNat] at ho33; rw [← Ny614.out] at ho33))
       replace HO605 := rb_ HO605 hb
       replace HO611 := rb_ HO611 hb
       have HO616 := Aside0.mk (Kd.R_lower (Kd.R_newB ho33 (kb_ BK608.out)) (sz_ HB))
       replace BK608 := kl_ BK608 hb
       replace BK623 := kl_ BK623 hb
       replace HB := ss_ HB hb
       clear hb ho33
       refine hK.out _ _ ⟨bc0_ BK608.out, bc1_ BK608.out⟩ (fun hHeld => ?_)
       clear hK K
       refine no_ 22 ?_
       exact nj_ (hJ0_2_9 (v610, v615, gb623) _ ⟨⟨kr_ HO605.out⟩, ⟨kr_ HO611.out⟩, ⟨kr_ (Kd.R_mono HO616.out (fun _ hk => hk.2))⟩, ⟨kb_ BK608.out⟩, ⟨kb_ BK623.out⟩, GW623, GE623, NB608_623, NB623_608, ⟨bw_ HB⟩⟩)
     ·clear HO605 BK608 HB
      rintro ⟨v610, v615⟩ w32 ⟨HO605, HO611, HO616, BK608, HB⟩
      dsimp only at HO605 HO611 HO616
      have hHeld := hn2_ (bc0_ BK608.out) (bc1_ BK608.out)
      obtain ⟨Ao33, co33, eo33⟩ := Kd.R_slice HO611.out
      (first | subst eo33 | (injection eo33 with f1_ f2_ f3_; have f4_ := f1_.symm; have f5_ := f3_.symm; clear f1_ f2_ f3_; subst f4_; subst f5_))
      obtain ⟨Ao34, co34, eo34⟩ := Kd.R_slice HO616.out
      (first | subst eo34 | (injection eo34 with f1_ f2_ f3_; have f4_ := f1_.symm; have f5_ := f3_.symm; clear f1_ f2_ f3_; subst f4_; subst f5_))
      refine nj_ ?_
      refine two_ (i := 5) (j := 9) (Ni := some 25) (Nj := some 6) (lz_ 12 63) (lz_ 12 543) rfl rfl rfl rfl (two_of HT_.out (by kernel_rfl)) (by decide) (by decide) (fun K hK => ?_) (fun K hK => ?_)
      ·skip
       refine gf_ Try.func13 (impl_Extend.calls k _ _ t609 t612 t613 _ _ y614 t606 t607 _ _ t602 t617 t620 t621 t622 _ (ch_ HO611) (cl_ HO611) (ch_ HO616) (cl_ HO616) (ch_ HO605) (cl_ HO605) A7.out) ?_
       rintro e w35 ⟨v618, rfl, ho0, hb⟩
       refine ⟨_, rfl, ?_⟩
       replace HO616 := rb_ HO616 hb
       have HO619 := Aside0.mk (Kd.R_lower (Kd.R_new' (Kd.R_new' ho0 (lt_ HO605)) (lt_ HO611)) (sz_ HB))
       replace HO605 := re_ HO605 ho0 hb
       replace HO611 := re_ HO611 ho0 hb
       replace BK608 := kl_ BK608 hb
       replace HB := ss_ HB hb
       clear hb ho0
       refine hK.out _ _ ⟨bc0_ BK608.out, bc1_ BK608.out⟩ (fun hHeld => ?_)
       clear hK K
       refine no_ 25 ?_
       refine pt_ 6 19 127 ?_
       refine pt_ 7 26 255 ?_
       refine pt_ 8 27 511 ?_
       exact nj_ (hJ0_2_5 (.slice Ao33 t609.length co33, .slice Ao34 y614.length co34, v618) _ ⟨⟨kr_ HO605.out⟩, ⟨kr_ HO611.out⟩, ⟨kr_ HO616.out⟩, ⟨kr_ (Kd.R_mono HO619.out (fun _ hk => ⟨hk.1.2, hk.2⟩))⟩, ⟨kb_ BK608.out⟩, ⟨bw_ HB⟩⟩)
      ·skip
       refine box_step ?hg (N := 6) ?hd (cs := #[.slice none 0 0, .int .i64 0, .string (⟨#[]⟩ : ByteArray)]) (t := 31) ?hr ?_; (case hd => rfl); (case hg => rfl); (case hr => first | (go_simp; done) | (go_simp; rfl))
       intro gb623 hg w33 hbox hb
       replace HO605 := rb_ HO605 hb
       replace HO611 := rb_ HO611 hb
       replace HO616 := rb_ HO616 hb
       have BK623 := Aside0.mk hbox
       have GW623 := gg_ hg HB
       have GE623 := GW623
       replace HB := ss_ HB hb
       have NB608_623 := nla_ hg BK608
       have NB623_608 := nga_ hg BK608
       replace BK608 := kl_ BK608 hb
       clear hb hbox hg
       refine hK.out _ _ ⟨bc0_ BK608.out, bc1_ BK608.out⟩ (fun hHeld => ?_)
       clear hK K
       refine no_ 6 ?_
       exact nj_ (hJ0_2_9 (.slice Ao33 t609.length co33, .slice Ao34 y614.length co34, gb623) _ ⟨⟨kr_ HO605.out⟩, ⟨kr_ HO611.out⟩, ⟨kr_ HO616.out⟩, ⟨kb_ BK608.out⟩, ⟨kb_ BK623.out⟩, GW623, GE623, NB608_623, NB623_608, ⟨bw_ HB⟩⟩)
    ·clear HO605 BK608 HB
     rintro ⟨v610, v615, gb623⟩ w33 ⟨HO605, HO611, HO616, BK608, BK623, GW623, GE623, NB608_623, NB623_608, HB⟩
     dsimp only at HO605 HO611 HO616 BK623 GW623 GE623 NB608_623 NB623_608
     have hHeld := hn2_ (bc0_ BK608.out) (bc1_ BK608.out)
     obtain ⟨Ao34, co34, eo34⟩ := Kd.R_slice HO611.out
     (first | subst eo34 | (injection eo34 with f1_ f2_ f3_; have f4_ := f1_.symm; have f5_ := f3_.symm; clear f1_ f2_ f3_; subst f4_; subst f5_))
     obtain ⟨Ao35, co35, eo35⟩ := Kd.R_slice HO616.out
     (first | subst eo35 | (injection eo35 with f1_ f2_ f3_; have f4_ := f1_.symm; have f5_ := f3_.symm; clear f1_ f2_ f3_; subst f4_; subst f5_))
     refine nj_ ?_
     refine one_ (i := 5) (N := some 25) (lz_ 12 575) rfl rfl (one_of HT_.out (by kernel_rfl)) (by decide) (fun K hK => ?_)
     refine gf_ Try.func13 (impl_Extend.calls k _ _ t609 t612 t613 _ _ y614 t606 t607 _ _ t602 t617 t620 t621 t622 _ (ch_ HO611) (cl_ HO611) (ch_ HO616) (cl_ HO616) (ch_ HO605) (cl_ HO605) A7.out) ?_
     rintro e w36 ⟨v618, rfl, ho0, hb⟩
     refine ⟨_, rfl, ?_⟩
     replace HO616 := rb_ HO616 hb
     have HO619 := Aside0.mk (Kd.R_lower (Kd.R_new' (Kd.R_new' ho0 (lt_ HO605)) (lt_ HO611)) (sz_ HB))
     replace HO605 := re_ HO605 ho0 hb
     replace HO611 := re_ HO611 ho0 hb
     replace BK608 := kl_ BK608 hb
     replace BK623 := kl_ BK623 hb
     replace HB := ss_ HB hb
     clear hb ho0
     refine hK.out _ _ ⟨bc0_ BK608.out, bc1_ BK608.out⟩ (fun hHeld => ?_)
     clear hK K
     refine no_ 25 ?_
     refine pt_ 6 19 639 ?_
     refine pt_ 7 26 767 ?_
     refine pt_ 8 27 1023 ?_
     exact nj_ (hJ0_2_5_9 (.slice Ao34 t609.length co34, .slice Ao35 y614.length co35, v618, gb623) _ ⟨hHeld, (kr_ HO605.out), (kr_ HO611.out), (kr_ HO616.out), (kr_ (Kd.R_mono HO619.out (fun _ hk => ⟨hk.1.2, hk.2⟩))), (kb_ BK608.out), (kb_ BK623.out), GW623.out, GE623.out, NB608_623.out, NB623_608.out, (bw_ HB)⟩)
   ·clear HO605 BK608 HB
    rintro ⟨v610, v615, v618⟩ w35 ⟨HO605, HO611, HO616, HO619, BK608, HB⟩
    dsimp only at HO605 HO611 HO616 HO619
    have hHeld := hn2_ (bc0_ BK608.out) (bc1_ BK608.out)
    refine nj_ ?_
    refine one_ (i := 9) (N := some 6) (lz_ 12 1023) rfl rfl (one_of HT_.out (by kernel_rfl)) (by decide) (fun K hK => ?_)
    refine box_step ?hg (N := 6) ?hd (cs := #[.slice none 0 0, .int .i64 0, .string (⟨#[]⟩ : ByteArray)]) (t := 31) ?hr ?_; (case hd => rfl); (case hg => rfl); (case hr => first | (go_simp; done) | (go_simp; rfl))
    intro gb623 hg w36 hbox hb
    replace HO605 := rb_ HO605 hb
    replace HO611 := rb_ HO611 hb
    replace HO616 := rb_ HO616 hb
    replace HO619 := rb_ HO619 hb
    have BK623 := Aside0.mk hbox
    have GW623 := gg_ hg HB
    have GE623 := GW623
    replace HB := ss_ HB hb
    have NB608_623 := nla_ hg BK608
    have NB623_608 := nga_ hg BK608
    replace BK608 := kl_ BK608 hb
    clear hb hbox hg
    refine hK.out _ _ ⟨bc0_ BK608.out, bc1_ BK608.out⟩ (fun hHeld => ?_)
    clear hK K
    refine no_ 6 ?_
    exact nj_ (hJ0_2_5_9 (v610, v615, v618, gb623) _ ⟨hHeld, (kr_ HO605.out), (kr_ HO611.out), (kr_ HO616.out), (kr_ HO619.out), (kb_ BK608.out), (kb_ BK623.out), GW623.out, GE623.out, NB608_623.out, NB623_608.out, (bw_ HB)⟩)
  rintro ⟨v610, v615, v618, gb623⟩ w36 ⟨hS_, h0_, h1_, h2_, h3_, h4_, h5_, h6_, h7_, h8_, h9_, h10_⟩
  have n0_ : Aside0 (Kd.R Kd.string 9 w36 w.heap.size (fun k_ => some k_ ≠ (v610 : Value).ownBlock ∧ some k_ ≠ (v618 : Value).ownBlock) (.slice Ao23 t602.length co23) t602) := ⟨h0_⟩
  have n1_ : Aside0 (Kd.R Kd.string 9 w36 w.heap.size (fun k_ => some k_ ≠ (.slice Ao23 t602.length co23 : Value).ownBlock ∧ some k_ ≠ (v618 : Value).ownBlock) v610 t609) := ⟨h1_⟩
  have n2_ : Aside0 (Kd.R k28 28 w36 w.heap.size (fun k_ => k_ ≠ gb608) v615 y614) := ⟨h2_⟩
  have n3_ : Aside0 (Kd.R Kd.string 9 w36 w.heap.size (fun k_ => some k_ ≠ (.slice Ao23 t602.length co23 : Value).ownBlock ∧ some k_ ≠ (v610 : Value).ownBlock) v618 t617) := ⟨h3_⟩
  have n4_ : Aside0 (w36.heap[gb608]? = some (.cells #[.int .i64 t606, .string t607] 28 (0, 0))) := ⟨h4_⟩
  have n5_ : Aside0 (w36.heap[gb623]? = some (.cells #[.slice none 0 0, .int .i64 0, .string (⟨#[]⟩ : ByteArray)] 31 (0, 0))) := ⟨h5_⟩
  have n6_ : Aside0 (w.heap.size ≤ gb623) := ⟨h6_⟩
  have n7_ : Aside0 (w.heap.size ≤ gb623) := ⟨h7_⟩
  have n8_ : Aside0 (gb608 ≠ gb623) := ⟨h8_⟩
  have n9_ : Aside0 (gb623 ≠ gb608) := ⟨h9_⟩
  have n10_ : Aside0 (Below w.heap.size w w36) := ⟨h10_⟩
  clear HO605
  clear BK608
  clear HB
  clear h0_ h1_ h2_ h3_ h4_ h5_ h6_ h7_ h8_ h9_ h10_
  have HO605 := n0_
  have HO611 := n1_
  have HO616 := n2_
  have HO619 := n3_
  have BK608 := n4_
  have BK623 := n5_
  have GW623 := n6_
  have GE623 := n7_
  have NB608_623 := n8_
  have NB623_608 := n9_
  have HB := n10_
  clear n0_ n1_ n2_ n3_ n4_ n5_ n6_ n7_ n8_ n9_ n10_
  have hHeld : w36.cell? ⟨gb608, 0, none⟩ = some (.int .i64 t606) ∧ w36.cell? ⟨gb608, 1, none⟩ = some (.string t607) := hS_
  obtain ⟨Ao37, co37, eo37⟩ := Kd.R_slice HO619.out
  (first | subst eo37 | (injection eo37 with f1_ f2_ f3_; have f4_ := f1_.symm; have f5_ := f3_.symm; clear f1_ f2_ f3_; subst f4_; subst f5_))
  refine nj_ ?_
  refine one_ (i := 10) (N := none) (lz_ 12 2047) rfl rfl (one_of HT_.out (by kernel_rfl)) (by decide) (fun K hK => ?_)
  have hs38 := bc0_ BK623.out
  have hfs38 := blk_frozen BK623.out 0
  have hns38_0 := NB608_623.out
  have hms38_0 := NB623_608.out
  have hs39 := bc1_ BK623.out
  have hfs39 := blk_frozen BK623.out 1
  have hns39_0 := NB608_623.out
  have hms39_0 := NB623_608.out
  have hs40 := bc2_ BK623.out
  have hfs40 := blk_frozen BK623.out 2
  have hns40_0 := NB608_623.out
  have hms40_0 := NB623_608.out
  refine skip_ (w1 := ?_) (by rfl) rfl ?_ ?_
  rotate_left
  ·go_simp
   rfl
  refine hK.out _ _ ⟨((cell_far (p := ⟨gb623, _, none⟩) NB608_623.out _).trans (((cell_far (p := ⟨gb623, _, none⟩) NB608_623.out _).trans (((cell_far (p := ⟨gb623, _, none⟩) NB608_623.out _).trans (hHeld.1)))))), ((cell_far (p := ⟨gb623, _, none⟩) NB608_623.out _).trans (((cell_far (p := ⟨gb623, _, none⟩) NB608_623.out _).trans (((cell_far (p := ⟨gb623, _, none⟩) NB608_623.out _).trans (hHeld.2))))))⟩ (fun hHeld => ?_)
  clear hK K
  refine pt_ 11 7 4095 ?_
  refine done_ (done_of HT_.out (by kernel_rfl)) ?_
  try go_wp2
  have n0_ : Aside0 (Kd.R Kd.string 9 (((w36.setCell ⟨gb623, 0, none⟩ (.slice Ao37 t617.length co37)).setCell ⟨gb623, 1, none⟩ (.int .i64 t620)).setCell ⟨gb623, 2, none⟩ (.string t621)) w.heap.size (fun k_ => some k_ ≠ (v610 : Value).ownBlock ∧ some k_ ≠ (.slice Ao37 t617.length co37 : Value).ownBlock) (.slice Ao23 t602.length co23) t602) := ⟨by (with_reducible repeat (first | apply Kd.R_alloc | apply Kd.R_drewN | apply Kd.R_drew)); exact Kd.R_mono (Kd.R_far (p := ⟨gb623, 2, none⟩) (Kd.R_far (p := ⟨gb623, 1, none⟩) (Kd.R_far (p := ⟨gb623, 0, none⟩) (Kd.R_types HO605.out BK623.out (by decide)) (fun _ hk => hk.2) (.slice Ao37 t617.length co37)) (fun _ hk => hk.2) (.int .i64 t620)) (fun _ hk => hk.2) (.string t621)) (fun _ hk => ⟨hk.1.1, hk.1.2⟩)⟩
  have n1_ : Aside0 (Kd.R Kd.string 9 (((w36.setCell ⟨gb623, 0, none⟩ (.slice Ao37 t617.length co37)).setCell ⟨gb623, 1, none⟩ (.int .i64 t620)).setCell ⟨gb623, 2, none⟩ (.string t621)) w.heap.size (fun k_ => some k_ ≠ (.slice Ao23 t602.length co23 : Value).ownBlock ∧ some k_ ≠ (.slice Ao37 t617.length co37 : Value).ownBlock) v610 t609) := ⟨by (with_reducible repeat (first | apply Kd.R_alloc | apply Kd.R_drewN | apply Kd.R_drew)); exact Kd.R_mono (Kd.R_far (p := ⟨gb623, 2, none⟩) (Kd.R_far (p := ⟨gb623, 1, none⟩) (Kd.R_far (p := ⟨gb623, 0, none⟩) (Kd.R_types HO611.out BK623.out (by decide)) (fun _ hk => hk.2) (.slice Ao37 t617.length co37)) (fun _ hk => hk.2) (.int .i64 t620)) (fun _ hk => hk.2) (.string t621)) (fun _ hk => ⟨hk.1.1, hk.1.2⟩)⟩
  have n2_ : Aside0 (Kd.R k28 28 (((w36.setCell ⟨gb623, 0, none⟩ (.slice Ao37 t617.length co37)).setCell ⟨gb623, 1, none⟩ (.int .i64 t620)).setCell ⟨gb623, 2, none⟩ (.string t621)) w.heap.size (fun k_ => k_ ≠ gb608) v615 y614) := ⟨by (with_reducible repeat (first | apply Kd.R_alloc | apply Kd.R_drewN | apply Kd.R_drew)); exact Kd.R_mono (Kd.R_far (p := ⟨gb623, 2, none⟩) (Kd.R_far (p := ⟨gb623, 1, none⟩) (Kd.R_far (p := ⟨gb623, 0, none⟩) (Kd.R_types HO616.out BK623.out (by decide)) (fun _ hk => hk.2) (.slice Ao37 t617.length co37)) (fun _ hk => hk.2) (.int .i64 t620)) (fun _ hk => hk.2) (.string t621)) (fun _ hk => hk.1)⟩
  have n3_ : Aside0 (Kd.R Kd.string 9 (((w36.setCell ⟨gb623, 0, none⟩ (.slice Ao37 t617.length co37)).setCell ⟨gb623, 1, none⟩ (.int .i64 t620)).setCell ⟨gb623, 2, none⟩ (.string t621)) w.heap.size (fun k_ => some k_ ≠ (.slice Ao23 t602.length co23 : Value).ownBlock ∧ some k_ ≠ (v610 : Value).ownBlock) (.slice Ao37 t617.length co37) t617) := ⟨by (with_reducible repeat (first | apply Kd.R_alloc | apply Kd.R_drewN | apply Kd.R_drew)); exact Kd.R_mono (Kd.R_far (p := ⟨gb623, 2, none⟩) (Kd.R_far (p := ⟨gb623, 1, none⟩) (Kd.R_far (p := ⟨gb623, 0, none⟩) (Kd.R_types HO619.out BK623.out (by decide)) (fun _ hk => hk.2) (.slice Ao37 t617.length co37)) (fun _ hk => hk.2) (.int .i64 t620)) (fun _ hk => hk.2) (.string t621)) (fun _ hk => ⟨hk.1.1, hk.1.2⟩)⟩
  have n4_ : Aside0 ((((w36.setCell ⟨gb623, 0, none⟩ (.slice Ao37 t617.length co37)).setCell ⟨gb623, 1, none⟩ (.int .i64 t620)).setCell ⟨gb623, 2, none⟩ (.string t621)).heap[gb608]? = some (.cells #[.int .i64 t606, .string t607] 28 (0, 0))) := ⟨kq_ BK608⟩
  have n5_ : Aside0 ((((w36.setCell ⟨gb623, 0, none⟩ (.slice Ao37 t617.length co37)).setCell ⟨gb623, 1, none⟩ (.int .i64 t620)).setCell ⟨gb623, 2, none⟩ (.string t621)).heap[gb623]? = some (.cells #[.slice Ao37 t617.length co37, .int .i64 t620, .string t621] 31 (0, 0))) := ⟨kq_ BK623⟩
  have n6_ : Aside0 (Below w.heap.size w (((w36.setCell ⟨gb623, 0, none⟩ (.slice Ao37 t617.length co37)).setCell ⟨gb623, 1, none⟩ (.int .i64 t620)).setCell ⟨gb623, 2, none⟩ (.string t621))) := ⟨bw_ HB⟩
  generalize (((w36.setCell ⟨gb623, 0, none⟩ (.slice Ao37 t617.length co37)).setCell ⟨gb623, 1, none⟩ (.int .i64 t620)).setCell ⟨gb623, 2, none⟩ (.string t621)) = w41 at n0_ n1_ n2_ n3_ n4_ n5_ n6_ ⊢
  have HO605 := n0_
  have HO611 := n1_
  have HO616 := n2_
  have HO619 := n3_
  have BK608 := n4_
  have BK623 := n5_
  have HB := n6_
  clear n0_ n1_ n2_ n3_ n4_ n5_ n6_
  replace HO605 := Aside0.mk (Kd.R_drew HO605.out)
  replace HO611 := Aside0.mk (Kd.R_drew HO611.out)
  replace HO616 := Aside0.mk (Kd.R_drew HO616.out)
  replace HO619 := Aside0.mk (Kd.R_drew HO619.out)
  replace BK608 := Aside0.mk (blk_drew BK608.out)
  replace BK623 := Aside0.mk (blk_drew BK623.out)
  replace HB := Aside0.mk (below_drew1 HB.out)
  refine start_ (n := 12) (S := fun w' => w'.cell? ⟨gb608, 0, none⟩ = some (.int .i64 t606) ∧ w'.cell? ⟨gb608, 1, none⟩ = some (.string t607)) (ds := []) (lz_ 12 0) (by kernel_rfl) rfl rfl ⟨bc0_ BK608.out, bc1_ BK608.out⟩ (fun hHeld => ?_); refine with_tabW laws_FnNew.tab6 laws_FnNew.bits6 (fun HT_ HW_ => ?_)
  generalize w41.drew = w42 at HO605 HO611 HO616 HO619 BK608 BK623 HB hHeld ⊢
  refine pt_ 4 33 16 ?_
  refine tt_ 1 30 18 ?_
  refine tt_ 3 32 26 ?_
  refine join_ (σ := Value × Value × Value × Value × Value × Nat) 2 (lz_ 12 1023) (fun s_ => [(29, .agg #[s_.1, .int .i64 t627, .string t628, s_.2.1, .int .i64 t632]), (31, s_.2.2.1), (34, .tuple #[.agg #[s_.2.2.2.1, .int .i64 t639, .string t640, s_.2.2.2.2.1, .int .i64 t644], .int .i64 t645]), (8, .pointer (some ⟨s_.2.2.2.2.2, 0, none⟩)), (28, .tuple #[.agg #[s_.2.2.2.1, .int .i64 t639, .string t640, s_.2.2.2.2.1, .int .i64 t644], .int .i64 t645]), (35, .agg #[s_.2.2.2.1, .int .i64 t639, .string t640, s_.2.2.2.2.1, .int .i64 t644]), (36, .int .i64 t645)]) (fun s_ w' => (w'.cell? ⟨gb608, 0, none⟩ = some (.int .i64 t606) ∧ w'.cell? ⟨gb608, 1, none⟩ = some (.string t607)) ∧ (Kd.R Kd.string 9 w' w.heap.size (fun k_ => some k_ ≠ (v610 : Value).ownBlock ∧ some k_ ≠ (.slice Ao37 t617.length co37 : Value).ownBlock ∧ some k_ ≠ (s_.1 : Value).ownBlock ∧ some k_ ≠ (s_.2.2.2.1 : Value).ownBlock) (.slice Ao23 t602.length co23) t602) ∧ (Kd.R Kd.string 9 w' w.heap.size (fun k_ => some k_ ≠ (.slice Ao23 t602.length co23 : Value).ownBlock ∧ some k_ ≠ (.slice Ao37 t617.length co37 : Value).ownBlock ∧ some k_ ≠ (s_.1 : Value).ownBlock ∧ some k_ ≠ (s_.2.2.2.1 : Value).ownBlock) v610 t609) ∧ (Kd.R k28 28 w' w.heap.size (fun k_ => some k_ ≠ (s_.2.2.1 : Value).ownBlock ∧ k_ ≠ gb608) v615 y614) ∧ (Kd.R Kd.string 9 w' w.heap.size (fun k_ => some k_ ≠ (.slice Ao23 t602.length co23 : Value).ownBlock ∧ some k_ ≠ (v610 : Value).ownBlock ∧ some k_ ≠ (s_.1 : Value).ownBlock ∧ some k_ ≠ (s_.2.2.2.1 : Value).ownBlock) (.slice Ao37 t617.length co37) t617) ∧ (Kd.R Kd.string 9 w' w.heap.size (fun k_ => some k_ ≠ (.slice Ao23 t602.length co23 : Value).ownBlock ∧ some k_ ≠ (v610 : Value).ownBlock ∧ some k_ ≠ (.slice Ao37 t617.length co37 : Value).ownBlock ∧ some k_ ≠ (s_.2.2.2.1 : Value).ownBlock) s_.1 t624) ∧ (Kd.R (Kd.int .u8) 5 w' w.heap.size (fun k_ => some k_ ≠ (s_.2.2.2.2.1 : Value).ownBlock) s_.2.1 t629) ∧ (Kd.R k28 28 w' w.heap.size (fun k_ => some k_ ≠ (v615 : Value).ownBlock ∧ k_ ≠ gb608) s_.2.2.1 y633) ∧ (Kd.R Kd.string 9 w' w.heap.size (fun k_ => some k_ ≠ (.slice Ao23 t602.length co23 : Value).ownBlock ∧ some k_ ≠ (v610 : Value).ownBlock ∧ some k_ ≠ (.slice Ao37 t617.length co37 : Value).ownBlock ∧ some k_ ≠ (s_.1 : Value).ownBlock) s_.2.2.2.1 t636) ∧ (Kd.R (Kd.int .u8) 5 w' w.heap.size (fun k_ => some k_ ≠ (s_.2.1 : Value).ownBlock) s_.2.2.2.2.1 t641) ∧ (w'.heap[gb608]? = some (.cells #[.int .i64 t606, .string t607] 28 (0, 0))) ∧ (w'.heap[gb623]? = some (.cells #[.slice Ao37 t617.length co37, .int .i64 t620, .string t621] 31 (0, 0))) ∧ (w'.heap[s_.2.2.2.2.2]? = some (.cells #[.slice none 0 0, .int .i64 0, .string (⟨#[]⟩ : ByteArray), .slice none 0 0, .int .i64 0] 37 (0, 0))) ∧ (w.heap.size ≤ s_.2.2.2.2.2) ∧ (w.heap.size ≤ s_.2.2.2.2.2) ∧ (gb608 ≠ s_.2.2.2.2.2) ∧ (s_.2.2.2.2.2 ≠ gb608) ∧ (gb623 ≠ s_.2.2.2.2.2) ∧ (s_.2.2.2.2.2 ≠ gb623) ∧ (Below w.heap.size w w')) ?_ ?_
  rotate_left
  ·intro hJ0_2_5_9
   refine join_ (σ := Value × Value × Value × Value × Value) 3 (lz_ 12 511) (fun s_ => [(29, .agg #[s_.1, .int .i64 t627, .string t628, s_.2.1, .int .i64 t632]), (31, s_.2.2.1), (34, .tuple #[.agg #[s_.2.2.2.1, .int .i64 t639, .string t640, s_.2.2.2.2, .int .i64 t644], .int .i64 t645]), (28, .tuple #[.agg #[s_.2.2.2.1, .int .i64 t639, .string t640, s_.2.2.2.2, .int .i64 t644], .int .i64 t645]), (35, .agg #[s_.2.2.2.1, .int .i64 t639, .string t640, s_.2.2.2.2, .int .i64 t644]), (36, .int .i64 t645)]) (fun s_ w' => Aside0 (Kd.R Kd.string 9 w' w.heap.size (fun k_ => some k_ ≠ (v610 : Value).ownBlock ∧ some k_ ≠ (.slice Ao37 t617.length co37 : Value).ownBlock ∧ some k_ ≠ (s_.1 : Value).ownBlock ∧ some k_ ≠ (s_.2.2.2.1 : Value).ownBlock) (.slice Ao23 t602.length co23) t602) ∧ Aside0 (Kd.R Kd.string 9 w' w.heap.size (fun k_ => some k_ ≠ (.slice Ao23 t602.length co23 : Value).ownBlock ∧ some k_ ≠ (.slice Ao37 t617.length co37 : Value).ownBlock ∧ some k_ ≠ (s_.1 : Value).ownBlock ∧ some k_ ≠ (s_.2.2.2.1 : Value).ownBlock) v610 t609) ∧ Aside0 (Kd.R k28 28 w' w.heap.size (fun k_ => some k_ ≠ (s_.2.2.1 : Value).ownBlock ∧ k_ ≠ gb608) v615 y614) ∧ Aside0 (Kd.R Kd.string 9 w' w.heap.size (fun k_ => some k_ ≠ (.slice Ao23 t602.length co23 : Value).ownBlock ∧ some k_ ≠ (v610 : Value).ownBlock ∧ some k_ ≠ (s_.1 : Value).ownBlock ∧ some k_ ≠ (s_.2.2.2.1 : Value).ownBlock) (.slice Ao37 t617.length co37) t617) ∧ Aside0 (Kd.R Kd.string 9 w' w.heap.size (fun k_ => some k_ ≠ (.slice Ao23 t602.length co23 : Value).ownBlock ∧ some k_ ≠ (v610 : Value).ownBlock ∧ some k_ ≠ (.slice Ao37 t617.length co37 : Value).ownBlock ∧ some k_ ≠ (s_.2.2.2.1 : Value).ownBlock) s_.1 t624) ∧ Aside0 (Kd.R (Kd.int .u8) 5 w' w.heap.size (fun k_ => some k_ ≠ (s_.2.2.2.2 : Value).ownBlock) s_.2.1 t629) ∧ Aside0 (Kd.R k28 28 w' w.heap.size (fun k_ => some k_ ≠ (v615 : Value).ownBlock ∧ k_ ≠ gb608) s_.2.2.1 y633) ∧ Aside0 (Kd.R Kd.string 9 w' w.heap.size (fun k_ => some k_ ≠ (.slice Ao23 t602.length co23 : Value).ownBlock ∧ some k_ ≠ (v610 : Value).ownBlock ∧ some k_ ≠ (.slice Ao37 t617.length co37 : Value).ownBlock ∧ some k_ ≠ (s_.1 : Value).ownBlock) s_.2.2.2.1 t636) ∧ Aside0 (Kd.R (Kd.int .u8) 5 w' w.heap.size (fun k_ => some k_ ≠ (s_.2.1 : Value).ownBlock) s_.2.2.2.2 t641) ∧ Aside0 (w'.heap[gb608]? = some (.cells #[.int .i64 t606, .string t607] 28 (0, 0))) ∧ Aside0 (w'.heap[gb623]? = some (.cells #[.slice Ao37 t617.length co37, .int .i64 t620, .string t621] 31 (0, 0))) ∧ Aside0 (Below w.heap.size w w')) ?_ ?_
   rotate_left
   ·intro hJ0_2_5
    refine join_ (σ := Value × Value × Value × Nat) 6 (lz_ 12 543) (fun s_ => [(29, .agg #[s_.1, .int .i64 t627, .string t628, s_.2.1, .int .i64 t632]), (31, s_.2.2.1), (8, .pointer (some ⟨s_.2.2.2, 0, none⟩))]) (fun s_ w' => Aside0 (Kd.R Kd.string 9 w' w.heap.size (fun k_ => some k_ ≠ (v610 : Value).ownBlock ∧ some k_ ≠ (.slice Ao37 t617.length co37 : Value).ownBlock ∧ some k_ ≠ (s_.1 : Value).ownBlock) (.slice Ao23 t602.length co23) t602) ∧ Aside0 (Kd.R Kd.string 9 w' w.heap.size (fun k_ => some k_ ≠ (.slice Ao23 t602.length co23 : Value).ownBlock ∧ some k_ ≠ (.slice Ao37 t617.length co37 : Value).ownBlock ∧ some k_ ≠ (s_.1 : Value).ownBlock) v610 t609) ∧ Aside0 (Kd.R k28 28 w' w.heap.size (fun k_ => some k_ ≠ (s_.2.2.1 : Value).ownBlock ∧ k_ ≠ gb608) v615 y614) ∧ Aside0 (Kd.R Kd.string 9 w' w.heap.size (fun k_ => some k_ ≠ (.slice Ao23 t602.length co23 : Value).ownBlock ∧ some k_ ≠ (v610 : Value).ownBlock ∧ some k_ ≠ (s_.1 : Value).ownBlock) (.slice Ao37 t617.length co37) t617) ∧ Aside0 (Kd.R Kd.string 9 w' w.heap.size (fun k_ => some k_ ≠ (.slice Ao23 t602.length co23 : Value).ownBlock ∧ some k_ ≠ (v610 : Value).ownBlock ∧ some k_ ≠ (.slice Ao37 t617.length co37 : Value).ownBlock) s_.1 t624) ∧ Aside0 (Kd.R (Kd.int .u8) 5 w' w.heap.size (fun _ => True) s_.2.1 t629) ∧ Aside0 (Kd.R k28 28 w' w.heap.size (fun k_ => some k_ ≠ (v615 : Value).ownBlock ∧ k_ ≠ gb608) s_.2.2.1 y633) ∧ Aside0 (w'.heap[gb608]? = some (.cells #[.int .i64 t606, .string t607] 28 (0, 0))) ∧ Aside0 (w'.heap[gb623]? = some (.cells #[.slice Ao37 t617.length co37, .int .i64 t620, .string t621] 31 (0, 0))) ∧ Aside0 (w'.heap[s_.2.2.2]? = some (.cells #[.slice none 0 0, .int .i64 0, .string (⟨#[]⟩ : ByteArray), .slice none 0 0, .int .i64 0] 37 (0, 0))) ∧ Aside0 (w.heap.size ≤ s_.2.2.2) ∧ Aside0 (w.heap.size ≤ s_.2.2.2) ∧ Aside0 (gb608 ≠ s_.2.2.2) ∧ Aside0 (s_.2.2.2 ≠ gb608) ∧ Aside0 (gb623 ≠ s_.2.2.2) ∧ Aside0 (s_.2.2.2 ≠ gb623) ∧ Aside0 (Below w.heap.size w w')) ?_ ?_
    rotate_left
    ·intro hJ0_2_9
     refine join_ (σ := Value × Value × Value) 7 (lz_ 12 31) (fun s_ => [(29, .agg #[s_.1, .int .i64 t627, .string t628, s_.2.1, .int .i64 t632]), (31, s_.2.2)]) (fun s_ w' => Aside0 (Kd.R Kd.string 9 w' w.heap.size (fun k_ => some k_ ≠ (v610 : Value).ownBlock ∧ some k_ ≠ (.slice Ao37 t617.length co37 : Value).ownBlock ∧ some k_ ≠ (s_.1 : Value).ownBlock) (.slice Ao23 t602.length co23) t602) ∧ Aside0 (Kd.R Kd.string 9 w' w.heap.size (fun k_ => some k_ ≠ (.slice Ao23 t602.length co23 : Value).ownBlock ∧ some k_ ≠ (.slice Ao37 t617.length co37 : Value).ownBlock ∧ some k_ ≠ (s_.1 : Value).ownBlock) v610 t609) ∧ Aside0 (Kd.R k28 28 w' w.heap.size (fun k_ => some k_ ≠ (s_.2.2 : Value).ownBlock ∧ k_ ≠ gb608) v615 y614) ∧ Aside0 (Kd.R Kd.string 9 w' w.heap.size (fun k_ => some k_ ≠ (.slice Ao23 t602.length co23 : Value).ownBlock ∧ some k_ ≠ (v610 : Value).ownBlock ∧ some k_ ≠ (s_.1 : Value).ownBlock) (.slice Ao37 t617.length co37) t617) ∧ Aside0 (Kd.R Kd.string 9 w' w.heap.size (fun k_ => some k_ ≠ (.slice Ao23 t602.length co23 : Value).ownBlock ∧ some k_ ≠ (v610 : Value).ownBlock ∧ some k_ ≠ (.slice Ao37 t617.length co37 : Value).ownBlock) s_.1 t624) ∧ Aside0 (Kd.R (Kd.int .u8) 5 w' w.heap.size (fun _ => True) s_.2.1 t629) ∧ Aside0 (Kd.R k28 28 w' w.heap.size (fun k_ => some k_ ≠ (v615 : Value).ownBlock ∧ k_ ≠ gb608) s_.2.2 y633) ∧ Aside0 (w'.heap[gb608]? = some (.cells #[.int .i64 t606, .string t607] 28 (0, 0))) ∧ Aside0 (w'.heap[gb623]? = some (.cells #[.slice Ao37 t617.length co37, .int .i64 t620, .string t621] 31 (0, 0))) ∧ Aside0 (Below w.heap.size w w')) ?_ ?_
     rotate_left
     ·intro hJ0_2
      refine join_ (σ := Value × Value × Nat) 7 (lz_ 12 539) (fun s_ => [(29, .agg #[s_.1, .int .i64 t627, .string t628, s_.2.1, .int .i64 t632]), (8, .pointer (some ⟨s_.2.2, 0, none⟩))]) (fun s_ w' => Aside0 (Kd.R Kd.string 9 w' w.heap.size (fun k_ => some k_ ≠ (v610 : Value).ownBlock ∧ some k_ ≠ (.slice Ao37 t617.length co37 : Value).ownBlock ∧ some k_ ≠ (s_.1 : Value).ownBlock) (.slice Ao23 t602.length co23) t602) ∧ Aside0 (Kd.R Kd.string 9 w' w.heap.size (fun k_ => some k_ ≠ (.slice Ao23 t602.length co23 : Value).ownBlock ∧ some k_ ≠ (.slice Ao37 t617.length co37 : Value).ownBlock ∧ some k_ ≠ (s_.1 : Value).ownBlock) v610 t609) ∧ Aside0 (Kd.R k28 28 w' w.heap.size (fun k_ => k_ ≠ gb608) v615 y614) ∧ Aside0 (Kd.R Kd.string 9 w' w.heap.size (fun k_ => some k_ ≠ (.slice Ao23 t602.length co23 : Value).ownBlock ∧ some k_ ≠ (v610 : Value).ownBlock ∧ some k_ ≠ (s_.1 : Value).ownBlock) (.slice Ao37 t617.length co37) t617) ∧ Aside0 (Kd.R Kd.string 9 w' w.heap.size (fun k_ => some k_ ≠ (.slice Ao23 t602.length co23 : Value).ownBlock ∧ some k_ ≠ (v610 : Value).ownBlock ∧ some k_ ≠ (.slice Ao37 t617.length co37 : Value).ownBlock) s_.1 t624) ∧ Aside0 (Kd.R (Kd.int .u8) 5 w' w.heap.size (fun _ => True) s_.2.1 t629) ∧ Aside0 (w'.heap[gb608]? = some (.cells #[.int .i64 t606, .string t607] 28 (0, 0))) ∧ Aside0 (w'.heap[gb623]? = some (.cells #[.slice Ao37 t617.length co37, .int .i64 t620, .string t621] 31 (0, 0))) ∧ Aside0 (w'.heap[s_.2.2]? = some (.cells #[.slice none 0 0, .int .i64 0, .string (⟨#[]⟩ : ByteArray), .slice none 0 0, .int .i64 0] 37 (0, 0))) ∧ Aside0 (w.heap.size ≤ s_.2.2) ∧ Aside0 (w.heap.size ≤ s_.2.2) ∧ Aside0 (gb608 ≠ s_.2.2) ∧ Aside0 (s_.2.2 ≠ gb608) ∧ Aside0 (gb623 ≠ s_.2.2) ∧ Aside0 (s_.2.2 ≠ gb623) ∧ Aside0 (Below w.heap.size w w')) ?_ ?_
      rotate_left
      ·intro hJ0_9
       refine join_ (σ := Value × Nat) 7 (lz_ 12 542) (fun s_ => [(31, s_.1), (8, .pointer (some ⟨s_.2, 0, none⟩))]) (fun s_ w' => Aside0 (Kd.R Kd.string 9 w' w.heap.size (fun k_ => some k_ ≠ (v610 : Value).ownBlock ∧ some k_ ≠ (.slice Ao37 t617.length co37 : Value).ownBlock) (.slice Ao23 t602.length co23) t602) ∧ Aside0 (Kd.R Kd.string 9 w' w.heap.size (fun k_ => some k_ ≠ (.slice Ao23 t602.length co23 : Value).ownBlock ∧ some k_ ≠ (.slice Ao37 t617.length co37 : Value).ownBlock) v610 t609) ∧ Aside0 (Kd.R k28 28 w' w.heap.size (fun k_ => some k_ ≠ (s_.1 : Value).ownBlock ∧ k_ ≠ gb608) v615 y614) ∧ Aside0 (Kd.R Kd.string 9 w' w.heap.size (fun k_ => some k_ ≠ (.slice Ao23 t602.length co23 : Value).ownBlock ∧ some k_ ≠ (v610 : Value).ownBlock) (.slice Ao37 t617.length co37) t617) ∧ Aside0 (Kd.R k28 28 w' w.heap.size (fun k_ => some k_ ≠ (v615 : Value).ownBlock ∧ k_ ≠ gb608) s_.1 y633) ∧ Aside0 (w'.heap[gb608]? = some (.cells #[.int .i64 t606, .string t607] 28 (0, 0))) ∧ Aside0 (w'.heap[gb623]? = some (.cells #[.slice Ao37 t617.length co37, .int .i64 t620, .string t621] 31 (0, 0))) ∧ Aside0 (w'.heap[s_.2]? = some (.cells #[.slice none 0 0, .int .i64 0, .string (⟨#[]⟩ : ByteArray), .slice none 0 0, .int .i64 0] 37 (0, 0))) ∧ Aside0 (w.heap.size ≤ s_.2) ∧ Aside0 (w.heap.size ≤ s_.2) ∧ Aside0 (gb608 ≠ s_.2) ∧ Aside0 (s_.2 ≠ gb608) ∧ Aside0 (gb623 ≠ s_.2) ∧ Aside0 (s_.2 ≠ gb623) ∧ Aside0 (Below w.heap.size w w')) ?_ ?_
       rotate_left
       ·intro hJ2_9
        refine join_ (σ := Value × Value) 8 (lz_ 12 27) (fun s_ => [(29, .agg #[s_.1, .int .i64 t627, .string t628, s_.2, .int .i64 t632])]) (fun s_ w' => Aside0 (Kd.R Kd.string 9 w' w.heap.size (fun k_ => some k_ ≠ (v610 : Value).ownBlock ∧ some k_ ≠ (.slice Ao37 t617.length co37 : Value).ownBlock ∧ some k_ ≠ (s_.1 : Value).ownBlock) (.slice Ao23 t602.length co23) t602) ∧ Aside0 (Kd.R Kd.string 9 w' w.heap.size (fun k_ => some k_ ≠ (.slice Ao23 t602.length co23 : Value).ownBlock ∧ some k_ ≠ (.slice Ao37 t617.length co37 : Value).ownBlock ∧ some k_ ≠ (s_.1 : Value).ownBlock) v610 t609) ∧ Aside0 (Kd.R k28 28 w' w.heap.size (fun k_ => k_ ≠ gb608) v615 y614) ∧ Aside0 (Kd.R Kd.string 9 w' w.heap.size (fun k_ => some k_ ≠ (.slice Ao23 t602.length co23 : Value).ownBlock ∧ some k_ ≠ (v610 : Value).ownBlock ∧ some k_ ≠ (s_.1 : Value).ownBlock) (.slice Ao37 t617.length co37) t617) ∧ Aside0 (Kd.R Kd.string 9 w' w.heap.size (fun k_ => some k_ ≠ (.slice Ao23 t602.length co23 : Value).ownBlock ∧ some k_ ≠ (v610 : Value).ownBlock ∧ some k_ ≠ (.slice Ao37 t617.length co37 : Value).ownBlock) s_.1 t624) ∧ Aside0 (Kd.R (Kd.int .u8) 5 w' w.heap.size (fun _ => True) s_.2 t629) ∧ Aside0 (w'.heap[gb608]? = some (.cells #[.int .i64 t606, .string t607] 28 (0, 0))) ∧ Aside0 (w'.heap[gb623]? = some (.cells #[.slice Ao37 t617.length co37, .int .i64 t620, .string t621] 31 (0, 0))) ∧ Aside0 (Below w.heap.size w w')) ?_ ?_
        rotate_left
        ·intro hJ0
         refine join_ (σ := Value) 8 (lz_ 12 30) (fun s_ => [(31, s_)]) (fun s_ w' => Aside0 (Kd.R Kd.string 9 w' w.heap.size (fun k_ => some k_ ≠ (v610 : Value).ownBlock ∧ some k_ ≠ (.slice Ao37 t617.length co37 : Value).ownBlock) (.slice Ao23 t602.length co23) t602) ∧ Aside0 (Kd.R Kd.string 9 w' w.heap.size (fun k_ => some k_ ≠ (.slice Ao23 t602.length co23 : Value).ownBlock ∧ some k_ ≠ (.slice Ao37 t617.length co37 : Value).ownBlock) v610 t609) ∧ Aside0 (Kd.R k28 28 w' w.heap.size (fun k_ => some k_ ≠ (s_ : Value).ownBlock ∧ k_ ≠ gb608) v615 y614) ∧ Aside0 (Kd.R Kd.string 9 w' w.heap.size (fun k_ => some k_ ≠ (.slice Ao23 t602.length co23 : Value).ownBlock ∧ some k_ ≠ (v610 : Value).ownBlock) (.slice Ao37 t617.length co37) t617) ∧ Aside0 (Kd.R k28 28 w' w.heap.size (fun k_ => some k_ ≠ (v615 : Value).ownBlock ∧ k_ ≠ gb608) s_ y633) ∧ Aside0 (w'.heap[gb608]? = some (.cells #[.int .i64 t606, .string t607] 28 (0, 0))) ∧ Aside0 (w'.heap[gb623]? = some (.cells #[.slice Ao37 t617.length co37, .int .i64 t620, .string t621] 31 (0, 0))) ∧ Aside0 (Below w.heap.size w w')) ?_ ?_
         rotate_left
         ·intro hJ2
          refine join_ (σ := Nat) 8 (lz_ 12 538) (fun s_ => [(8, .pointer (some ⟨s_, 0, none⟩))]) (fun s_ w' => Aside0 (Kd.R Kd.string 9 w' w.heap.size (fun k_ => some k_ ≠ (v610 : Value).ownBlock ∧ some k_ ≠ (.slice Ao37 t617.length co37 : Value).ownBlock) (.slice Ao23 t602.length co23) t602) ∧ Aside0 (Kd.R Kd.string 9 w' w.heap.size (fun k_ => some k_ ≠ (.slice Ao23 t602.length co23 : Value).ownBlock ∧ some k_ ≠ (.slice Ao37 t617.length co37 : Value).ownBlock) v610 t609) ∧ Aside0 (Kd.R k28 28 w' w.heap.size (fun k_ => k_ ≠ gb608) v615 y614) ∧ Aside0 (Kd.R Kd.string 9 w' w.heap.size (fun k_ => some k_ ≠ (.slice Ao23 t602.length co23 : Value).ownBlock ∧ some k_ ≠ (v610 : Value).ownBlock) (.slice Ao37 t617.length co37) t617) ∧ Aside0 (w'.heap[gb608]? = some (.cells #[.int .i64 t606, .string t607] 28 (0, 0))) ∧ Aside0 (w'.heap[gb623]? = some (.cells #[.slice Ao37 t617.length co37, .int .i64 t620, .string t621] 31 (0, 0))) ∧ Aside0 (w'.heap[s_]? = some (.cells #[.slice none 0 0, .int .i64 0, .string (⟨#[]⟩ : ByteArray), .slice none 0 0, .int .i64 0] 37 (0, 0))) ∧ Aside0 (w.heap.size ≤ s_) ∧ Aside0 (w.heap.size ≤ s_) ∧ Aside0 (gb608 ≠ s_) ∧ Aside0 (s_ ≠ gb608) ∧ Aside0 (gb623 ≠ s_) ∧ Aside0 (s_ ≠ gb623) ∧ Aside0 (Below w.heap.size w w')) ?_ ?_
          rotate_left
          ·intro hJ9
           refine three_ (i := 0) (j := 2) (k := 9) (Ni := some 29) (Nj := some 31) (Nk := some 8) (lz_ 12 27) (lz_ 12 30) (lz_ 12 538) rfl rfl rfl rfl rfl rfl (three_of HT_.out (by kernel_rfl)) (by decide) (by decide) (by decide) (fun K hK => ?_) (fun K hK => ?_) (fun K hK => ?_)
           ·skip
            refine gf_ Try.func16 (impl_StoreNew.calls k  t624 t627 t628 t629 t632 _ A8.out) ?_
            rintro e w43 ⟨v625, v630, rfl, ho0, ho1, hb⟩
            refine ⟨_, rfl, ?_⟩
            replace HO616 := rb_ HO616 hb
            have HO626 := Aside0.mk (Kd.R_lower (Kd.R_new' (Kd.R_new' (Kd.R_new' ho0 (lt_ HO605)) (lt_ HO611)) (lt_ HO619)) (sz_ HB))
            replace HO605 := re_ HO605 ho0 hb
            replace HO611 := re_ HO611 ho0 hb
            replace HO619 := re_ HO619 ho0 hb
            have HO631 := Aside0.mk (Kd.R_lower ho1 (sz_ HB))
            replace BK608 := kl_ BK608 hb
            replace BK623 := kl_ BK623 hb
            replace HB := ss_ HB hb
            clear hb ho0 ho1
            refine hK.out _ _ ⟨bc0_ BK608.out, bc1_ BK608.out⟩ (fun hHeld => ?_)
            clear hK K
            refine no_ 29 ?_
            exact nj_ (hJ0 (v625, v630) _ ⟨⟨kr_ (Kd.R_mono HO605.out (fun _ hk => ⟨hk.1.1, ⟨hk.1.2, hk.2⟩⟩))⟩, ⟨kr_ (Kd.R_mono HO611.out (fun _ hk => ⟨hk.1.1, ⟨hk.1.2, hk.2⟩⟩))⟩, ⟨kr_ HO616.out⟩, ⟨kr_ (Kd.R_mono HO619.out (fun _ hk => ⟨hk.1.1, ⟨hk.1.2, hk.2⟩⟩))⟩, ⟨kr_ (Kd.R_mono HO626.out (fun _ hk => ⟨hk.1.1.2, ⟨hk.1.2, hk.2⟩⟩))⟩, ⟨kr_ HO631.out⟩, ⟨kb_ BK608.out⟩, ⟨kb_ BK623.out⟩, ⟨bw_ HB⟩⟩)
           ·skip
            refine Kd.R_lit_step k28 _ 28 ?hg (N := 31) ?hd (xs := ([(⟨t606, t607⟩ : S28)] : List (S28))) (inner := [.int .i64 t606, .string t607]) (ok := fun _ => True) (okp := fun _ => True) ?hr ?hp (fun _ hk => hk) trivial (Below.refl _ _) (Nat.le_refl _) (by simp) ?_; (case hd => rfl); (case hg => rfl); (case hr => first | (go_simp; done) | (go_simp; rfl)); (case hp => exact (Reps.c2 (show Kd.M k28 _ _ _ (⟨t606, t607⟩ : S28) [.int .i64 t606, .string t607] from (k28_mkM _ _ _ (⟨t606, t607⟩ : S28) )) (Reps.none _ _)))
            intro v634 w43 ho44 hb hg_ hnew_
            clear hg_ hnew_
            (first | rw [← Ny633.out] at ho44 | (simp only [Int.reduceToNat] at ho44; rw [← Ny633.out] at ho44))
            replace HO605 := rb_ HO605 hb
            replace HO611 := rb_ HO611 hb
            replace HO619 := rb_ HO619 hb
            have HO635 := Aside0.mk (Kd.R_lower (Kd.R_newB (Kd.R_new' ho44 (lt_ HO616)) (kb_ BK608.out)) (sz_ HB))
            replace HO616 := re_ HO616 ho44 hb
            replace BK608 := kl_ BK608 hb
            replace BK623 := kl_ BK623 hb
            replace HB := ss_ HB hb
            clear hb ho44
            refine hK.out _ _ ⟨bc0_ BK608.out, bc1_ BK608.out⟩ (fun hHeld => ?_)
            clear hK K
            refine no_ 31 ?_
            exact nj_ (hJ2 (v634) _ ⟨⟨kr_ HO605.out⟩, ⟨kr_ HO611.out⟩, ⟨kr_ (Kd.R_mono HO616.out (fun _ hk => ⟨hk.2, hk.1⟩))⟩, ⟨kr_ HO619.out⟩, ⟨kr_ (Kd.R_mono HO635.out (fun _ hk => ⟨hk.1.2, hk.2⟩))⟩, ⟨kb_ BK608.out⟩, ⟨kb_ BK623.out⟩, ⟨bw_ HB⟩⟩)
           ·skip
            refine box_step ?hg (N := 8) ?hd (cs := #[.slice none 0 0, .int .i64 0, .string (⟨#[]⟩ : ByteArray), .slice none 0 0, .int .i64 0]) (t := 37) ?hr ?_; (case hd => rfl); (case hg => rfl); (case hr => first | (go_simp; done) | (go_simp; rfl))
            intro gb646 hg w43 hbox hb
            replace HO605 := rb_ HO605 hb
            replace HO611 := rb_ HO611 hb
            replace HO616 := rb_ HO616 hb
            replace HO619 := rb_ HO619 hb
            have BK646 := Aside0.mk hbox
            have GW646 := gg_ hg HB
            have GE646 := GW646
            replace HB := ss_ HB hb
            have NB608_646 := nla_ hg BK608
            have NB646_608 := nga_ hg BK608
            replace BK608 := kl_ BK608 hb
            have NB623_646 := nla_ hg BK623
            have NB646_623 := nga_ hg BK623
            replace BK623 := kl_ BK623 hb
            clear hb hbox hg
            refine hK.out _ _ ⟨bc0_ BK608.out, bc1_ BK608.out⟩ (fun hHeld => ?_)
            clear hK K
            refine no_ 8 ?_
            exact nj_ (hJ9 (gb646) _ ⟨⟨kr_ HO605.out⟩, ⟨kr_ HO611.out⟩, ⟨kr_ HO616.out⟩, ⟨kr_ HO619.out⟩, ⟨kb_ BK608.out⟩, ⟨kb_ BK623.out⟩, ⟨kb_ BK646.out⟩, GW646, GE646, NB608_646, NB646_608, NB623_646, NB646_623, ⟨bw_ HB⟩⟩)
          ·clear HO605 HO611 HO616 HO619 BK608 BK623 HB
           rintro gb646 w44 ⟨HO605, HO611, HO616, HO619, BK608, BK623, BK646, GW646, GE646, NB608_646, NB646_608, NB623_646, NB646_623, HB⟩
           have hHeld := hn2_ (bc0_ BK608.out) (bc1_ BK608.out)
           refine nj_ ?_
           refine two_ (i := 0) (j := 2) (Ni := some 29) (Nj := some 31) (lz_ 12 539) (lz_ 12 542) rfl rfl rfl rfl (two_of HT_.out (by kernel_rfl)) (by decide) (by decide) (fun K hK => ?_) (fun K hK => ?_)
           ·skip
            refine gf_ Try.func16 (impl_StoreNew.calls k  t624 t627 t628 t629 t632 _ A8.out) ?_
            rintro e w45 ⟨v625, v630, rfl, ho0, ho1, hb⟩
            refine ⟨_, rfl, ?_⟩
            replace HO616 := rb_ HO616 hb
            have HO626 := Aside0.mk (Kd.R_lower (Kd.R_new' (Kd.R_new' (Kd.R_new' ho0 (lt_ HO605)) (lt_ HO611)) (lt_ HO619)) (sz_ HB))
            replace HO605 := re_ HO605 ho0 hb
            replace HO611 := re_ HO611 ho0 hb
            replace HO619 := re_ HO619 ho0 hb
            have HO631 := Aside0.mk (Kd.R_lower ho1 (sz_ HB))
            replace BK608 := kl_ BK608 hb
            replace BK623 := kl_ BK623 hb
            replace BK646 := kl_ BK646 hb
            replace HB := ss_ HB hb
            clear hb ho0 ho1
            refine hK.out _ _ ⟨bc0_ BK608.out, bc1_ BK608.out⟩ (fun hHeld => ?_)
            clear hK K
            refine no_ 29 ?_
            exact nj_ (hJ0_9 (v625, v630, gb646) _ ⟨⟨kr_ (Kd.R_mono HO605.out (fun _ hk => ⟨hk.1.1, ⟨hk.1.2, hk.2⟩⟩))⟩, ⟨kr_ (Kd.R_mono HO611.out (fun _ hk => ⟨hk.1.1, ⟨hk.1.2, hk.2⟩⟩))⟩, ⟨kr_ HO616.out⟩, ⟨kr_ (Kd.R_mono HO619.out (fun _ hk => ⟨hk.1.1, ⟨hk.1.2, hk.2⟩⟩))⟩, ⟨kr_ (Kd.R_mono HO626.out (fun _ hk => ⟨hk.1.1.2, ⟨hk.1.2, hk.2⟩⟩))⟩, ⟨kr_ HO631.out⟩, ⟨kb_ BK608.out⟩, ⟨kb_ BK623.out⟩, ⟨kb_ BK646.out⟩, GW646, GE646, NB608_646, NB646_608, NB623_646, NB646_623, ⟨bw_ HB⟩⟩)
           ·skip
            refine Kd.R_lit_step k28 _ 28 ?hg (N := 31) ?hd (xs := ([(⟨t606, t607⟩ : S28)] : List (S28))) (inner := [.int .i64 t606, .string t607]) (ok := fun _ => True) (okp := fun _ => True) ?hr ?hp (fun _ hk => hk) trivial (Below.refl _ _) (Nat.le_refl _) (by simp) ?_; (case hd => rfl); (case hg => rfl); (case hr => first | (go_simp; done) | (go_simp; rfl)); (case hp => exact (Reps.c2 (show Kd.M k28 _ _ _ (⟨t606, t607⟩ : S28) [.int .i64 t606, .string t607] from (k28_mkM _ _ _ (⟨t606, t607⟩ : S28) )) (Reps.none _ _)))
            intro v634 w45 ho46 hb hg_ hnew_
            clear hg_ hnew_
            (first | rw [← Ny633.out] at ho46 | (simp only [Int.reduceToNat] at ho46; rw [← Ny633.out] at ho46))
            replace HO605 := rb_ HO605 hb
            replace HO611 := rb_ HO611 hb
            replace HO619 := rb_ HO619 hb
            have HO635 := Aside0.mk (Kd.R_lower (Kd.R_newB (Kd.R_new' ho46 (lt_ HO616)) (kb_ BK608.out)) (sz_ HB))
            replace HO616 := re_ HO616 ho46 hb
            replace BK608 := kl_ BK608 hb
            replace BK623 := kl_ BK623 hb
            replace BK646 := kl_ BK646 hb
            replace HB := ss_ HB hb
            clear hb ho46
            refine hK.out _ _ ⟨bc0_ BK608.out, bc1_ BK608.out⟩ (fun hHeld => ?_)
            clear hK K
            refine no_ 31 ?_
            exact nj_ (hJ2_9 (v634, gb646) _ ⟨⟨kr_ HO605.out⟩, ⟨kr_ HO611.out⟩, ⟨kr_ (Kd.R_mono HO616.out (fun _ hk => ⟨hk.2, hk.1⟩))⟩, ⟨kr_ HO619.out⟩, ⟨kr_ (Kd.R_mono HO635.out (fun _ hk => ⟨hk.1.2, hk.2⟩))⟩, ⟨kb_ BK608.out⟩, ⟨kb_ BK623.out⟩, ⟨kb_ BK646.out⟩, GW646, GE646, NB608_646, NB646_608, NB623_646, NB646_623, ⟨bw_ HB⟩⟩)
         ·clear HO605 HO611 HO616 HO619 BK608 BK623 HB
          rintro v634 w45 ⟨HO605, HO611, HO616, HO619, HO635, BK608, BK623, HB⟩
          have hHeld := hn2_ (bc0_ BK608.out) (bc1_ BK608.out)
          refine nj_ ?_
          refine two_ (i := 0) (j := 9) (Ni := some 29) (Nj := some 8) (lz_ 12 31) (lz_ 12 542) rfl rfl rfl rfl (two_of HT_.out (by kernel_rfl)) (by decide) (by decide) (fun K hK => ?_) (fun K hK => ?_)
          ·skip
           refine gf_ Try.func16 (impl_StoreNew.calls k  t624 t627 t628 t629 t632 _ A8.out) ?_
           rintro e w46 ⟨v625, v630, rfl, ho0, ho1, hb⟩
           refine ⟨_, rfl, ?_⟩
           replace HO616 := rb_ HO616 hb
           replace HO635 := rb_ HO635 hb
           have HO626 := Aside0.mk (Kd.R_lower (Kd.R_new' (Kd.R_new' (Kd.R_new' ho0 (lt_ HO605)) (lt_ HO611)) (lt_ HO619)) (sz_ HB))
           replace HO605 := re_ HO605 ho0 hb
           replace HO611 := re_ HO611 ho0 hb
           replace HO619 := re_ HO619 ho0 hb
           have HO631 := Aside0.mk (Kd.R_lower ho1 (sz_ HB))
           replace BK608 := kl_ BK608 hb
           replace BK623 := kl_ BK623 hb
           replace HB := ss_ HB hb
           clear hb ho0 ho1
           refine hK.out _ _ ⟨bc0_ BK608.out, bc1_ BK608.out⟩ (fun hHeld => ?_)
           clear hK K
           refine no_ 29 ?_
           exact nj_ (hJ0_2 (v625, v630, v634) _ ⟨⟨kr_ (Kd.R_mono HO605.out (fun _ hk => ⟨hk.1.1, ⟨hk.1.2, hk.2⟩⟩))⟩, ⟨kr_ (Kd.R_mono HO611.out (fun _ hk => ⟨hk.1.1, ⟨hk.1.2, hk.2⟩⟩))⟩, ⟨kr_ HO616.out⟩, ⟨kr_ (Kd.R_mono HO619.out (fun _ hk => ⟨hk.1.1, ⟨hk.1.2, hk.2⟩⟩))⟩, ⟨kr_ (Kd.R_mono HO626.out (fun _ hk => ⟨hk.1.1.2, ⟨hk.1.2, hk.2⟩⟩))⟩, ⟨kr_ HO631.out⟩, ⟨kr_ HO635.out⟩, ⟨kb_ BK608.out⟩, ⟨kb_ BK623.out⟩, ⟨bw_ HB⟩⟩)
          ·skip
           refine box_step ?hg (N := 8) ?hd (cs := #[.slice none 0 0, .int .i64 0, .string (⟨#[]⟩ : ByteArray), .slice none 0 0, .int .i64 0]) (t := 37) ?hr ?_; (case hd => rfl); (case hg => rfl); (case hr => first | (go_simp; done) | (go_simp; rfl))
           intro gb646 hg w46 hbox hb
           replace HO605 := rb_ HO605 hb
           replace HO611 := rb_ HO611 hb
           replace HO616 := rb_ HO616 hb
           replace HO619 := rb_ HO619 hb
           replace HO635 := rb_ HO635 hb
           have BK646 := Aside0.mk hbox
           have GW646 := gg_ hg HB
           have GE646 := GW646
           replace HB := ss_ HB hb
           have NB608_646 := nla_ hg BK608
           have NB646_608 := nga_ hg BK608
           replace BK608 := kl_ BK608 hb
           have NB623_646 := nla_ hg BK623
           have NB646_623 := nga_ hg BK623
           replace BK623 := kl_ BK623 hb
           clear hb hbox hg
           refine hK.out _ _ ⟨bc0_ BK608.out, bc1_ BK608.out⟩ (fun hHeld => ?_)
           clear hK K
           refine no_ 8 ?_
           exact nj_ (hJ2_9 (v634, gb646) _ ⟨⟨kr_ HO605.out⟩, ⟨kr_ HO611.out⟩, ⟨kr_ HO616.out⟩, ⟨kr_ HO619.out⟩, ⟨kr_ HO635.out⟩, ⟨kb_ BK608.out⟩, ⟨kb_ BK623.out⟩, ⟨kb_ BK646.out⟩, GW646, GE646, NB608_646, NB646_608, NB623_646, NB646_623, ⟨bw_ HB⟩⟩)
        ·clear HO605 HO611 HO616 HO619 BK608 BK623 HB
         rintro ⟨v625, v630⟩ w44 ⟨HO605, HO611, HO616, HO619, HO626, HO631, BK608, BK623, HB⟩
         dsimp only at HO605 HO611 HO619 HO626 HO631
         have hHeld := hn2_ (bc0_ BK608.out) (bc1_ BK608.out)
         refine nj_ ?_
         refine two_ (i := 2) (j := 9) (Ni := some 31) (Nj := some 8) (lz_ 12 31) (lz_ 12 539) rfl rfl rfl rfl (two_of HT_.out (by kernel_rfl)) (by decide) (by decide) (fun K hK => ?_) (fun K hK => ?_)
         ·skip
          refine Kd.R_lit_step k28 _ 28 ?hg (N := 31) ?hd (xs := ([(⟨t606, t607⟩ : S28)] : List (S28))) (inner := [.int .i64 t606, .string t607]) (ok := fun _ => True) (okp := fun _ => True) ?hr ?hp (fun _ hk => hk) trivial (Below.refl _ _) (Nat.le_refl _) (by simp) ?_; (case hd => rfl); (case hg => rfl); (case hr => first | (go_simp; done) | (go_simp; rfl)); (case hp => exact (Reps.c2 (show Kd.M k28 _ _ _ (⟨t606, t607⟩ : S28) [.int .i64 t606, .string t607] from (k28_mkM _ _ _ (⟨t606, t607⟩ : S28) )) (Reps.none _ _)))
          intro v634 w45 ho46 hb hg_ hnew_
          clear hg_ hnew_
          (first | rw [← Ny633.out] at ho46 | (simp only [Int.reduceToNat] at ho46; rw [← Ny633.out] at ho46))
          replace HO605 := rb_ HO605 hb
          replace HO611 := rb_ HO611 hb
          replace HO619 := rb_ HO619 hb
          replace HO626 := rb_ HO626 hb
          replace HO631 := rb_ HO631 hb
          have HO635 := Aside0.mk (Kd.R_lower (Kd.R_newB (Kd.R_new' ho46 (lt_ HO616)) (kb_ BK608.out)) (sz_ HB))
          replace HO616 := re_ HO616 ho46 hb
          replace BK608 := kl_ BK608 hb
          replace BK623 := kl_ BK623 hb
          replace HB := ss_ HB hb
          clear hb ho46
          refine hK.out _ _ ⟨bc0_ BK608.out, bc1_ BK608.out⟩ (fun hHeld => ?_)
          clear hK K
          refine no_ 31 ?_
          exact nj_ (hJ0_2 (v625, v630, v634) _ ⟨⟨kr_ HO605.out⟩, ⟨kr_ HO611.out⟩, ⟨kr_ (Kd.R_mono HO616.out (fun _ hk => ⟨hk.2, hk.1⟩))⟩, ⟨kr_ HO619.out⟩, ⟨kr_ HO626.out⟩, ⟨kr_ HO631.out⟩, ⟨kr_ (Kd.R_mono HO635.out (fun _ hk => ⟨hk.1.2, hk.2⟩))⟩, ⟨kb_ BK608.out⟩, ⟨kb_ BK623.out⟩, ⟨bw_ HB⟩⟩)
         ·skip
          refine box_step ?hg (N := 8) ?hd (cs := #[.slice none 0 0, .int .i64 0, .string (⟨#[]⟩ : ByteArray), .slice none 0 0, .int .i64 0]) (t := 37) ?hr ?_; (case hd => rfl); (case hg => rfl); (case hr => first | (go_simp; done) | (go_simp; rfl))
          intro gb646 hg w45 hbox hb
          replace HO605 := rb_ HO605 hb
          replace HO611 := rb_ HO611 hb
          replace HO616 := rb_ HO616 hb
          replace HO619 := rb_ HO619 hb
          replace HO626 := rb_ HO626 hb
          replace HO631 := rb_ HO631 hb
          have BK646 := Aside0.mk hbox
          have GW646 := gg_ hg HB
          have GE646 := GW646
          replace HB := ss_ HB hb
          have NB608_646 := nla_ hg BK608
          have NB646_608 := nga_ hg BK608
          replace BK608 := kl_ BK608 hb
          have NB623_646 := nla_ hg BK623
          have NB646_623 := nga_ hg BK623
          replace BK623 := kl_ BK623 hb
          clear hb hbox hg
          refine hK.out _ _ ⟨bc0_ BK608.out, bc1_ BK608.out⟩ (fun hHeld => ?_)
          clear hK K
          refine no_ 8 ?_
          exact nj_ (hJ0_9 (v625, v630, gb646) _ ⟨⟨kr_ HO605.out⟩, ⟨kr_ HO611.out⟩, ⟨kr_ HO616.out⟩, ⟨kr_ HO619.out⟩, ⟨kr_ HO626.out⟩, ⟨kr_ HO631.out⟩, ⟨kb_ BK608.out⟩, ⟨kb_ BK623.out⟩, ⟨kb_ BK646.out⟩, GW646, GE646, NB608_646, NB646_608, NB623_646, NB646_623, ⟨bw_ HB⟩⟩)
       ·clear HO605 HO611 HO616 HO619 BK608 BK623 HB
        rintro ⟨v634, gb646⟩ w46 ⟨HO605, HO611, HO616, HO619, HO635, BK608, BK623, BK646, GW646, GE646, NB608_646, NB646_608, NB623_646, NB646_623, HB⟩
        dsimp only at HO616 HO635 BK646 GW646 GE646 NB608_646 NB646_608 NB623_646 NB646_623
        have hHeld := hn2_ (bc0_ BK608.out) (bc1_ BK608.out)
        refine nj_ ?_
        refine one_ (i := 0) (N := some 29) (lz_ 12 543) rfl rfl (one_of HT_.out (by kernel_rfl)) (by decide) (fun K hK => ?_)
        refine gf_ Try.func16 (impl_StoreNew.calls k  t624 t627 t628 t629 t632 _ A8.out) ?_
        rintro e w47 ⟨v625, v630, rfl, ho0, ho1, hb⟩
        refine ⟨_, rfl, ?_⟩
        replace HO616 := rb_ HO616 hb
        replace HO635 := rb_ HO635 hb
        have HO626 := Aside0.mk (Kd.R_lower (Kd.R_new' (Kd.R_new' (Kd.R_new' ho0 (lt_ HO605)) (lt_ HO611)) (lt_ HO619)) (sz_ HB))
        replace HO605 := re_ HO605 ho0 hb
        replace HO611 := re_ HO611 ho0 hb
        replace HO619 := re_ HO619 ho0 hb
        have HO631 := Aside0.mk (Kd.R_lower ho1 (sz_ HB))
        replace BK608 := kl_ BK608 hb
        replace BK623 := kl_ BK623 hb
        replace BK646 := kl_ BK646 hb
        replace HB := ss_ HB hb
        clear hb ho0 ho1
        refine hK.out _ _ ⟨bc0_ BK608.out, bc1_ BK608.out⟩ (fun hHeld => ?_)
        clear hK K
        refine no_ 29 ?_
        exact nj_ (hJ0_2_9 (v625, v630, v634, gb646) _ ⟨⟨kr_ (Kd.R_mono HO605.out (fun _ hk => ⟨hk.1.1, ⟨hk.1.2, hk.2⟩⟩))⟩, ⟨kr_ (Kd.R_mono HO611.out (fun _ hk => ⟨hk.1.1, ⟨hk.1.2, hk.2⟩⟩))⟩, ⟨kr_ HO616.out⟩, ⟨kr_ (Kd.R_mono HO619.out (fun _ hk => ⟨hk.1.1, ⟨hk.1.2, hk.2⟩⟩))⟩, ⟨kr_ (Kd.R_mono HO626.out (fun _ hk => ⟨hk.1.1.2, ⟨hk.1.2, hk.2⟩⟩))⟩, ⟨kr_ HO631.out⟩, ⟨kr_ HO635.out⟩, ⟨kb_ BK608.out⟩, ⟨kb_ BK623.out⟩, ⟨kb_ BK646.out⟩, GW646, GE646, NB608_646, NB646_608, NB623_646, NB646_623, ⟨bw_ HB⟩⟩)
      ·clear HO605 HO611 HO616 HO619 BK608 BK623 HB
       rintro ⟨v625, v630, gb646⟩ w45 ⟨HO605, HO611, HO616, HO619, HO626, HO631, BK608, BK623, BK646, GW646, GE646, NB608_646, NB646_608, NB623_646, NB646_623, HB⟩
       dsimp only at HO605 HO611 HO619 HO626 HO631 BK646 GW646 GE646 NB608_646 NB646_608 NB623_646 NB646_623
       have hHeld := hn2_ (bc0_ BK608.out) (bc1_ BK608.out)
       refine nj_ ?_
       refine one_ (i := 2) (N := some 31) (lz_ 12 543) rfl rfl (one_of HT_.out (by kernel_rfl)) (by decide) (fun K hK => ?_)
       refine Kd.R_lit_step k28 _ 28 ?hg (N := 31) ?hd (xs := ([(⟨t606, t607⟩ : S28)] : List (S28))) (inner := [.int .i64 t606, .string t607]) (ok := fun _ => True) (okp := fun _ => True) ?hr ?hp (fun _ hk => hk) trivial (Below.refl _ _) (Nat.le_refl _) (by simp) ?_; (case hd => rfl); (case hg => rfl); (case hr => first | (go_simp; done) | (go_simp; rfl)); (case hp => exact (Reps.c2 (show Kd.M k28 _ _ _ (⟨t606, t607⟩ : S28) [.int .i64 t606, .string t607] from (k28_mkM _ _ _ (⟨t606, t607⟩ : S28) )) (Reps.none _ _)))
       intro v634 w46 ho47 hb hg_ hnew_
       clear hg_ hnew_
       (first | rw [← Ny633.out] at ho47 | (simp only [Int.reduceToNat] at ho47; rw [← Ny633.out] at ho47))
       replace HO605 := rb_ HO605 hb
       replace HO611 := rb_ HO611 hb
       replace HO619 := rb_ HO619 hb
       replace HO626 := rb_ HO626 hb
       replace HO631 := rb_ HO631 hb
       have HO635 := Aside0.mk (Kd.R_lower (Kd.R_newB (Kd.R_new' ho47 (lt_ HO616)) (kb_ BK608.out)) (sz_ HB))
       replace HO616 := re_ HO616 ho47 hb
       replace BK608 := kl_ BK608 hb
       replace BK623 := kl_ BK623 hb
       replace BK646 := kl_ BK646 hb
       replace HB := ss_ HB hb
       clear hb ho47
       refine hK.out _ _ ⟨bc0_ BK608.out, bc1_ BK608.out⟩ (fun hHeld => ?_)
       clear hK K
       refine no_ 31 ?_
       exact nj_ (hJ0_2_9 (v625, v630, v634, gb646) _ ⟨⟨kr_ HO605.out⟩, ⟨kr_ HO611.out⟩, ⟨kr_ (Kd.R_mono HO616.out (fun _ hk => ⟨hk.2, hk.1⟩))⟩, ⟨kr_ HO619.out⟩, ⟨kr_ HO626.out⟩, ⟨kr_ HO631.out⟩, ⟨kr_ (Kd.R_mono HO635.out (fun _ hk => ⟨hk.1.2, hk.2⟩))⟩, ⟨kb_ BK608.out⟩, ⟨kb_ BK623.out⟩, ⟨kb_ BK646.out⟩, GW646, GE646, NB608_646, NB646_608, NB623_646, NB646_623, ⟨bw_ HB⟩⟩)
     ·clear HO605 HO611 HO616 HO619 BK608 BK623 HB
      rintro ⟨v625, v630, v634⟩ w46 ⟨HO605, HO611, HO616, HO619, HO626, HO631, HO635, BK608, BK623, HB⟩
      dsimp only at HO605 HO611 HO616 HO619 HO626 HO631 HO635
      have hHeld := hn2_ (bc0_ BK608.out) (bc1_ BK608.out)
      obtain ⟨Ao47, co47, eo47⟩ := Kd.R_slice HO626.out
      (first | subst eo47 | (injection eo47 with f1_ f2_ f3_; have f4_ := f1_.symm; have f5_ := f3_.symm; clear f1_ f2_ f3_; subst f4_; subst f5_))
      obtain ⟨Ao48, co48, eo48⟩ := Kd.R_slice HO631.out
      (first | subst eo48 | (injection eo48 with f1_ f2_ f3_; have f4_ := f1_.symm; have f5_ := f3_.symm; clear f1_ f2_ f3_; subst f4_; subst f5_))
      obtain ⟨Ao49, co49, eo49⟩ := Kd.R_slice HO635.out
      (first | subst eo49 | (injection eo49 with f1_ f2_ f3_; have f4_ := f1_.symm; have f5_ := f3_.symm; clear f1_ f2_ f3_; subst f4_; subst f5_))
      refine nj_ ?_
      refine two_ (i := 5) (j := 9) (Ni := some 34) (Nj := some 8) (lz_ 12 63) (lz_ 12 543) rfl rfl rfl rfl (two_of HT_.out (by kernel_rfl)) (by decide) (by decide) (fun K hK => ?_) (fun K hK => ?_)
      ·skip
       refine gf_ Try.func15 (impl_Commit.calls k _ _ t624 t627 t628 _ _ t629 t632 _ _ y633 t606 t607 _ _ t602 t636 t639 t640 t641 t644 t645 _ (ch_ HO626) (cl_ HO626) (ch_ HO631) (cl_ HO631) (ch_ HO635) (cl_ HO635) (ch_ HO605) (cl_ HO605) A9.out) ?_
       rintro e w50 ⟨v637, v642, rfl, ho0, ho1, hb⟩
       refine ⟨_, rfl, ?_⟩
       replace HO616 := rb_ HO616 hb
       replace HO635 := rb_ HO635 hb
       have HO638 := Aside0.mk (Kd.R_lower (Kd.R_new' (Kd.R_new' (Kd.R_new' (Kd.R_new' ho0 (lt_ HO605)) (lt_ HO611)) (lt_ HO619)) (lt_ HO626)) (sz_ HB))
       replace HO605 := re_ HO605 ho0 hb
       replace HO611 := re_ HO611 ho0 hb
       replace HO619 := re_ HO619 ho0 hb
       replace HO626 := re_ HO626 ho0 hb
       have HO643 := Aside0.mk (Kd.R_lower (Kd.R_new' ho1 (lt_ HO631)) (sz_ HB))
       replace HO631 := re_ HO631 ho1 hb
       replace BK608 := kl_ BK608 hb
       replace BK623 := kl_ BK623 hb
       replace HB := ss_ HB hb
       clear hb ho0 ho1
       refine hK.out _ _ ⟨bc0_ BK608.out, bc1_ BK608.out⟩ (fun hHeld => ?_)
       clear hK K
       refine no_ 34 ?_
       refine pt_ 6 28 127 ?_
       refine pt_ 7 35 255 ?_
       refine pt_ 8 36 511 ?_
       exact nj_ (hJ0_2_5 (.slice Ao47 t624.length co47, .slice Ao48 t629.length co48, .slice Ao49 y633.length co49, v637, v642) _ ⟨⟨kr_ (Kd.R_mono HO605.out (fun _ hk => ⟨hk.1.1, ⟨hk.1.2.1, ⟨hk.1.2.2, hk.2⟩⟩⟩))⟩, ⟨kr_ (Kd.R_mono HO611.out (fun _ hk => ⟨hk.1.1, ⟨hk.1.2.1, ⟨hk.1.2.2, hk.2⟩⟩⟩))⟩, ⟨kr_ HO616.out⟩, ⟨kr_ (Kd.R_mono HO619.out (fun _ hk => ⟨hk.1.1, ⟨hk.1.2.1, ⟨hk.1.2.2, hk.2⟩⟩⟩))⟩, ⟨kr_ (Kd.R_mono HO626.out (fun _ hk => ⟨hk.1.1, ⟨hk.1.2.1, ⟨hk.1.2.2, hk.2⟩⟩⟩))⟩, ⟨kr_ (Kd.R_mono HO631.out (fun _ hk => hk.2))⟩, ⟨kr_ HO635.out⟩, ⟨kr_ (Kd.R_mono HO638.out (fun _ hk => ⟨hk.1.1.1.2, ⟨hk.1.1.2, ⟨hk.1.2, hk.2⟩⟩⟩))⟩, ⟨kr_ (Kd.R_mono HO643.out (fun _ hk => hk.2))⟩, ⟨kb_ BK608.out⟩, ⟨kb_ BK623.out⟩, ⟨bw_ HB⟩⟩)
      ·skip
       refine box_step ?hg (N := 8) ?hd (cs := #[.slice none 0 0, .int .i64 0, .string (⟨#[]⟩ : ByteArray), .slice none 0 0, .int .i64 0]) (t := 37) ?hr ?_; (case hd => rfl); (case hg => rfl); (case hr => first | (go_simp; done) | (go_simp; rfl))
       intro gb646 hg w47 hbox hb
       replace HO605 := rb_ HO605 hb
       replace HO611 := rb_ HO611 hb
       replace HO616 := rb_ HO616 hb
       replace HO619 := rb_ HO619 hb
       replace HO626 := rb_ HO626 hb
       replace HO631 := rb_ HO631 hb
       replace HO635 := rb_ HO635 hb
       have BK646 := Aside0.mk hbox
       have GW646 := gg_ hg HB
       have GE646 := GW646
       replace HB := ss_ HB hb
       have NB608_646 := nla_ hg BK608
       have NB646_608 := nga_ hg BK608
       replace BK608 := kl_ BK608 hb
       have NB623_646 := nla_ hg BK623
       have NB646_623 := nga_ hg BK623
       replace BK623 := kl_ BK623 hb
       clear hb hbox hg
       refine hK.out _ _ ⟨bc0_ BK608.out, bc1_ BK608.out⟩ (fun hHeld => ?_)
       clear hK K
       refine no_ 8 ?_
       exact nj_ (hJ0_2_9 (.slice Ao47 t624.length co47, .slice Ao48 t629.length co48, .slice Ao49 y633.length co49, gb646) _ ⟨⟨kr_ HO605.out⟩, ⟨kr_ HO611.out⟩, ⟨kr_ HO616.out⟩, ⟨kr_ HO619.out⟩, ⟨kr_ HO626.out⟩, ⟨kr_ HO631.out⟩, ⟨kr_ HO635.out⟩, ⟨kb_ BK608.out⟩, ⟨kb_ BK623.out⟩, ⟨kb_ BK646.out⟩, GW646, GE646, NB608_646, NB646_608, NB623_646, NB646_623, ⟨bw_ HB⟩⟩)
    ·clear HO605 HO611 HO616 HO619 BK608 BK623 HB
     rintro ⟨v625, v630, v634, gb646⟩ w47 ⟨HO605, HO611, HO616, HO619, HO626, HO631, HO635, BK608, BK623, BK646, GW646, GE646, NB608_646, NB646_608, NB623_646, NB646_623, HB⟩
     dsimp only at HO605 HO611 HO616 HO619 HO626 HO631 HO635 BK646 GW646 GE646 NB608_646 NB646_608 NB623_646 NB646_623
     have hHeld := hn2_ (bc0_ BK608.out) (bc1_ BK608.out)
     obtain ⟨Ao48, co48, eo48⟩ := Kd.R_slice HO626.out
     (first | subst eo48 | (injection eo48 with f1_ f2_ f3_; have f4_ := f1_.symm; have f5_ := f3_.symm; clear f1_ f2_ f3_; subst f4_; subst f5_))
     obtain ⟨Ao49, co49, eo49⟩ := Kd.R_slice HO631.out
     (first | subst eo49 | (injection eo49 with f1_ f2_ f3_; have f4_ := f1_.symm; have f5_ := f3_.symm; clear f1_ f2_ f3_; subst f4_; subst f5_))
     obtain ⟨Ao50, co50, eo50⟩ := Kd.R_slice HO635.out
     (first | subst eo50 | (injection eo50 with f1_ f2_ f3_; have f4_ := f1_.symm; have f5_ := f3_.symm; clear f1_ f2_ f3_; subst f4_; subst f5_))
     refine nj_ ?_
     refine one_ (i := 5) (N := some 34) (lz_ 12 575) rfl rfl (one_of HT_.out (by kernel_rfl)) (by decide) (fun K hK => ?_)
     refine gf_ Try.func15 (impl_Commit.calls k _ _ t624 t627 t628 _ _ t629 t632 _ _ y633 t606 t607 _ _ t602 t636 t639 t640 t641 t644 t645 _ (ch_ HO626) (cl_ HO626) (ch_ HO631) (cl_ HO631) (ch_ HO635) (cl_ HO635) (ch_ HO605) (cl_ HO605) A9.out) ?_
     rintro e w51 ⟨v637, v642, rfl, ho0, ho1, hb⟩
     refine ⟨_, rfl, ?_⟩
     replace HO616 := rb_ HO616 hb
     replace HO635 := rb_ HO635 hb
     have HO638 := Aside0.mk (Kd.R_lower (Kd.R_new' (Kd.R_new' (Kd.R_new' (Kd.R_new' ho0 (lt_ HO605)) (lt_ HO611)) (lt_ HO619)) (lt_ HO626)) (sz_ HB))
     replace HO605 := re_ HO605 ho0 hb
     replace HO611 := re_ HO611 ho0 hb
     replace HO619 := re_ HO619 ho0 hb
     replace HO626 := re_ HO626 ho0 hb
     have HO643 := Aside0.mk (Kd.R_lower (Kd.R_new' ho1 (lt_ HO631)) (sz_ HB))
     replace HO631 := re_ HO631 ho1 hb
     replace BK608 := kl_ BK608 hb
     replace BK623 := kl_ BK623 hb
     replace BK646 := kl_ BK646 hb
     replace HB := ss_ HB hb
     clear hb ho0 ho1
     refine hK.out _ _ ⟨bc0_ BK608.out, bc1_ BK608.out⟩ (fun hHeld => ?_)
     clear hK K
     refine no_ 34 ?_
     refine pt_ 6 28 639 ?_
     refine pt_ 7 35 767 ?_
     refine pt_ 8 36 1023 ?_
     exact nj_ (hJ0_2_5_9 (.slice Ao48 t624.length co48, .slice Ao49 t629.length co49, .slice Ao50 y633.length co50, v637, v642, gb646) _ ⟨hHeld, (kr_ (Kd.R_mono HO605.out (fun _ hk => ⟨hk.1.1, ⟨hk.1.2.1, ⟨hk.1.2.2, hk.2⟩⟩⟩))), (kr_ (Kd.R_mono HO611.out (fun _ hk => ⟨hk.1.1, ⟨hk.1.2.1, ⟨hk.1.2.2, hk.2⟩⟩⟩))), (kr_ HO616.out), (kr_ (Kd.R_mono HO619.out (fun _ hk => ⟨hk.1.1, ⟨hk.1.2.1, ⟨hk.1.2.2, hk.2⟩⟩⟩))), (kr_ (Kd.R_mono HO626.out (fun _ hk => ⟨hk.1.1, ⟨hk.1.2.1, ⟨hk.1.2.2, hk.2⟩⟩⟩))), (kr_ (Kd.R_mono HO631.out (fun _ hk => hk.2))), (kr_ HO635.out), (kr_ (Kd.R_mono HO638.out (fun _ hk => ⟨hk.1.1.1.2, ⟨hk.1.1.2, ⟨hk.1.2, hk.2⟩⟩⟩))), (kr_ (Kd.R_mono HO643.out (fun _ hk => hk.2))), (kb_ BK608.out), (kb_ BK623.out), (kb_ BK646.out), GW646.out, GE646.out, NB608_646.out, NB646_608.out, NB623_646.out, NB646_623.out, (bw_ HB)⟩)
   ·clear HO605 HO611 HO616 HO619 BK608 BK623 HB
    rintro ⟨v625, v630, v634, v637, v642⟩ w50 ⟨HO605, HO611, HO616, HO619, HO626, HO631, HO635, HO638, HO643, BK608, BK623, HB⟩
    dsimp only at HO605 HO611 HO616 HO619 HO626 HO631 HO635 HO638 HO643
    have hHeld := hn2_ (bc0_ BK608.out) (bc1_ BK608.out)
    refine nj_ ?_
    refine one_ (i := 9) (N := some 8) (lz_ 12 1023) rfl rfl (one_of HT_.out (by kernel_rfl)) (by decide) (fun K hK => ?_)
    refine box_step ?hg (N := 8) ?hd (cs := #[.slice none 0 0, .int .i64 0, .string (⟨#[]⟩ : ByteArray), .slice none 0 0, .int .i64 0]) (t := 37) ?hr ?_; (case hd => rfl); (case hg => rfl); (case hr => first | (go_simp; done) | (go_simp; rfl))
    intro gb646 hg w51 hbox hb
    replace HO605 := rb_ HO605 hb
    replace HO611 := rb_ HO611 hb
    replace HO616 := rb_ HO616 hb
    replace HO619 := rb_ HO619 hb
    replace HO626 := rb_ HO626 hb
    replace HO631 := rb_ HO631 hb
    replace HO635 := rb_ HO635 hb
    replace HO638 := rb_ HO638 hb
    replace HO643 := rb_ HO643 hb
    have BK646 := Aside0.mk hbox
    have GW646 := gg_ hg HB
    have GE646 := GW646
    replace HB := ss_ HB hb
    have NB608_646 := nla_ hg BK608
    have NB646_608 := nga_ hg BK608
    replace BK608 := kl_ BK608 hb
    have NB623_646 := nla_ hg BK623
    have NB646_623 := nga_ hg BK623
    replace BK623 := kl_ BK623 hb
    clear hb hbox hg
    refine hK.out _ _ ⟨bc0_ BK608.out, bc1_ BK608.out⟩ (fun hHeld => ?_)
    clear hK K
    refine no_ 8 ?_
    exact nj_ (hJ0_2_5_9 (v625, v630, v634, v637, v642, gb646) _ ⟨hHeld, (kr_ HO605.out), (kr_ HO611.out), (kr_ HO616.out), (kr_ HO619.out), (kr_ HO626.out), (kr_ HO631.out), (kr_ HO635.out), (kr_ HO638.out), (kr_ HO643.out), (kb_ BK608.out), (kb_ BK623.out), (kb_ BK646.out), GW646.out, GE646.out, NB608_646.out, NB646_608.out, NB623_646.out, NB646_623.out, (bw_ HB)⟩)
  rintro ⟨v625, v630, v634, v637, v642, gb646⟩ w51 ⟨hS_, h0_, h1_, h2_, h3_, h4_, h5_, h6_, h7_, h8_, h9_, h10_, h11_, h12_, h13_, h14_, h15_, h16_, h17_, h18_⟩
  have n0_ : Aside0 (Kd.R Kd.string 9 w51 w.heap.size (fun k_ => some k_ ≠ (v610 : Value).ownBlock ∧ some k_ ≠ (.slice Ao37 t617.length co37 : Value).ownBlock ∧ some k_ ≠ (v625 : Value).ownBlock ∧ some k_ ≠ (v637 : Value).ownBlock) (.slice Ao23 t602.length co23) t602) := ⟨h0_⟩
  have n1_ : Aside0 (Kd.R Kd.string 9 w51 w.heap.size (fun k_ => some k_ ≠ (.slice Ao23 t602.length co23 : Value).ownBlock ∧ some k_ ≠ (.slice Ao37 t617.length co37 : Value).ownBlock ∧ some k_ ≠ (v625 : Value).ownBlock ∧ some k_ ≠ (v637 : Value).ownBlock) v610 t609) := ⟨h1_⟩
  have n2_ : Aside0 (Kd.R k28 28 w51 w.heap.size (fun k_ => some k_ ≠ (v634 : Value).ownBlock ∧ k_ ≠ gb608) v615 y614) := ⟨h2_⟩
  have n3_ : Aside0 (Kd.R Kd.string 9 w51 w.heap.size (fun k_ => some k_ ≠ (.slice Ao23 t602.length co23 : Value).ownBlock ∧ some k_ ≠ (v610 : Value).ownBlock ∧ some k_ ≠ (v625 : Value).ownBlock ∧ some k_ ≠ (v637 : Value).ownBlock) (.slice Ao37 t617.length co37) t617) := ⟨h3_⟩
  have n4_ : Aside0 (Kd.R Kd.string 9 w51 w.heap.size (fun k_ => some k_ ≠ (.slice Ao23 t602.length co23 : Value).ownBlock ∧ some k_ ≠ (v610 : Value).ownBlock ∧ some k_ ≠ (.slice Ao37 t617.length co37 : Value).ownBlock ∧ some k_ ≠ (v637 : Value).ownBlock) v625 t624) := ⟨h4_⟩
  have n5_ : Aside0 (Kd.R (Kd.int .u8) 5 w51 w.heap.size (fun k_ => some k_ ≠ (v642 : Value).ownBlock) v630 t629) := ⟨h5_⟩
  have n6_ : Aside0 (Kd.R k28 28 w51 w.heap.size (fun k_ => some k_ ≠ (v615 : Value).ownBlock ∧ k_ ≠ gb608) v634 y633) := ⟨h6_⟩
  have n7_ : Aside0 (Kd.R Kd.string 9 w51 w.heap.size (fun k_ => some k_ ≠ (.slice Ao23 t602.length co23 : Value).ownBlock ∧ some k_ ≠ (v610 : Value).ownBlock ∧ some k_ ≠ (.slice Ao37 t617.length co37 : Value).ownBlock ∧ some k_ ≠ (v625 : Value).ownBlock) v637 t636) := ⟨h7_⟩
  have n8_ : Aside0 (Kd.R (Kd.int .u8) 5 w51 w.heap.size (fun k_ => some k_ ≠ (v630 : Value).ownBlock) v642 t641) := ⟨h8_⟩
  have n9_ : Aside0 (w51.heap[gb608]? = some (.cells #[.int .i64 t606, .string t607] 28 (0, 0))) := ⟨h9_⟩
  have n10_ : Aside0 (w51.heap[gb623]? = some (.cells #[.slice Ao37 t617.length co37, .int .i64 t620, .string t621] 31 (0, 0))) := ⟨h10_⟩
  have n11_ : Aside0 (w51.heap[gb646]? = some (.cells #[.slice none 0 0, .int .i64 0, .string (⟨#[]⟩ : ByteArray), .slice none 0 0, .int .i64 0] 37 (0, 0))) := ⟨h11_⟩
  have n12_ : Aside0 (w.heap.size ≤ gb646) := ⟨h12_⟩
  have n13_ : Aside0 (w.heap.size ≤ gb646) := ⟨h13_⟩
  have n14_ : Aside0 (gb608 ≠ gb646) := ⟨h14_⟩
  have n15_ : Aside0 (gb646 ≠ gb608) := ⟨h15_⟩
  have n16_ : Aside0 (gb623 ≠ gb646) := ⟨h16_⟩
  have n17_ : Aside0 (gb646 ≠ gb623) := ⟨h17_⟩
  have n18_ : Aside0 (Below w.heap.size w w51) := ⟨h18_⟩
  clear HO605
  clear HO611
  clear HO616
  clear HO619
  clear BK608
  clear BK623
  clear HB
  clear h0_ h1_ h2_ h3_ h4_ h5_ h6_ h7_ h8_ h9_ h10_ h11_ h12_ h13_ h14_ h15_ h16_ h17_ h18_
  have HO605 := n0_
  have HO611 := n1_
  have HO616 := n2_
  have HO619 := n3_
  have HO626 := n4_
  have HO631 := n5_
  have HO635 := n6_
  have HO638 := n7_
  have HO643 := n8_
  have BK608 := n9_
  have BK623 := n10_
  have BK646 := n11_
  have GW646 := n12_
  have GE646 := n13_
  have NB608_646 := n14_
  have NB646_608 := n15_
  have NB623_646 := n16_
  have NB646_623 := n17_
  have HB := n18_
  clear n0_ n1_ n2_ n3_ n4_ n5_ n6_ n7_ n8_ n9_ n10_ n11_ n12_ n13_ n14_ n15_ n16_ n17_ n18_
  have hHeld : w51.cell? ⟨gb608, 0, none⟩ = some (.int .i64 t606) ∧ w51.cell? ⟨gb608, 1, none⟩ = some (.string t607) := hS_
  obtain ⟨Ao52, co52, eo52⟩ := Kd.R_slice HO638.out
  (first | subst eo52 | (injection eo52 with f1_ f2_ f3_; have f4_ := f1_.symm; have f5_ := f3_.symm; clear f1_ f2_ f3_; subst f4_; subst f5_))
  obtain ⟨Ao56, co56, eo56⟩ := Kd.R_slice HO643.out
  (first | subst eo56 | (injection eo56 with f1_ f2_ f3_; have f4_ := f1_.symm; have f5_ := f3_.symm; clear f1_ f2_ f3_; subst f4_; subst f5_))
  refine nj_ ?_
  refine one_ (i := 10) (N := none) (lz_ 12 2047) rfl rfl (one_of HT_.out (by kernel_rfl)) (by decide) (fun K hK => ?_)
  have hs53 := bc0_ BK646.out
  have hfs53 := blk_frozen BK646.out 0
  have hns53_0 := NB608_646.out
  have hns53_1 := NB623_646.out
  have hms53_0 := NB646_608.out
  have hms53_1 := NB646_623.out
  have hs54 := bc1_ BK646.out
  have hfs54 := blk_frozen BK646.out 1
  have hns54_0 := NB608_646.out
  have hns54_1 := NB623_646.out
  have hms54_0 := NB646_608.out
  have hms54_1 := NB646_623.out
  have hs55 := bc2_ BK646.out
  have hfs55 := blk_frozen BK646.out 2
  have hns55_0 := NB608_646.out
  have hns55_1 := NB623_646.out
  have hms55_0 := NB646_608.out
  have hms55_1 := NB646_623.out
  have hs57 := bc3_ BK646.out
  have hfs57 := blk_frozen BK646.out 3
  have hns57_0 := NB608_646.out
  have hns57_1 := NB623_646.out
  have hms57_0 := NB646_608.out
  have hms57_1 := NB646_623.out
  have hs58 := bc4_ BK646.out
  have hfs58 := blk_frozen BK646.out 4
  have hns58_0 := NB608_646.out
  have hns58_1 := NB623_646.out
  have hms58_0 := NB646_608.out
  have hms58_1 := NB646_623.out
  refine skip_ (w1 := ?_) (by rfl) rfl ?_ ?_
  rotate_left
  ·go_simp
   rfl
  refine hK.out _ _ ⟨((cell_far (p := ⟨gb646, _, none⟩) NB608_646.out _).trans (((cell_far (p := ⟨gb646, _, none⟩) NB608_646.out _).trans (((cell_far (p := ⟨gb646, _, none⟩) NB608_646.out _).trans (((cell_far (p := ⟨gb646, _, none⟩) NB608_646.out _).trans (((cell_far (p := ⟨gb646, _, none⟩) NB608_646.out _).trans (hHeld.1)))))))))), ((cell_far (p := ⟨gb646, _, none⟩) NB608_646.out _).trans (((cell_far (p := ⟨gb646, _, none⟩) NB608_646.out _).trans (((cell_far (p := ⟨gb646, _, none⟩) NB608_646.out _).trans (((cell_far (p := ⟨gb646, _, none⟩) NB608_646.out _).trans (((cell_far (p := ⟨gb646, _, none⟩) NB608_646.out _).trans (hHeld.2))))))))))⟩ (fun hHeld => ?_)
  clear hK K
  refine pt_ 11 9 4095 ?_
  refine done_ (done_of HT_.out (by kernel_rfl)) ?_
  try go_wp2_with (first | ((with_reducible refine gq_ 14 37 ?_); refine gc_ 37 Try.func14 (impl_LogNew.calls k  t647 t650 t651 _ A10.out) ?_; rintro e w59 ⟨v648, rfl, ho0, hb⟩; refine ⟨_, rfl, ?_⟩; replace HO616 := rbf_ HO616 BK646 hb; replace HO631 := rbf_ HO631 BK646 hb; replace HO635 := rbf_ HO635 BK646 hb; replace HO643 := rbf_ HO643 BK646 hb; have HO649 := Aside0.mk (Kd.R_lower (Kd.R_new' (Kd.R_new' (Kd.R_new' (Kd.R_new' (Kd.R_new' ho0 (lf_ HO605 BK646)) (lf_ HO611 BK646)) (lf_ HO619 BK646)) (lf_ HO626 BK646)) (lf_ HO638 BK646)) (sz_ HB)); replace HO605 := ref_ HO605 BK646 ho0 hb; replace HO611 := ref_ HO611 BK646 ho0 hb; replace HO619 := ref_ HO619 BK646 ho0 hb; replace HO626 := ref_ HO626 BK646 ho0 hb; replace HO638 := ref_ HO638 BK646 ho0 hb; replace BK608 := kp_ BK608 hb; replace BK623 := kp_ BK623 hb; replace BK646 := kp_ BK646 hb; replace HB := ss_ HB hb; clear hb ho0; obtain ⟨Ao60, co60, eo60⟩ := Kd.R_slice HO649.out; subst eo60) | ((with_reducible refine gq_ 17 38 ?_); refine gc_ 38 Try.func17 (impl_LogOk.calls k _ _ t647 t650 t651 true _ (ch_ HO649) (cl_ HO649) A11.out) ?_; rintro e w61 ⟨rfl, hb⟩; refine ⟨_, rfl, ?_⟩; replace HO605 := rb_ HO605 hb; replace HO611 := rb_ HO611 hb; replace HO616 := rb_ HO616 hb; replace HO619 := rb_ HO619 hb; replace HO626 := rb_ HO626 hb; replace HO631 := rb_ HO631 hb; replace HO635 := rb_ HO635 hb; replace HO638 := rb_ HO638 hb; replace HO643 := rb_ HO643 hb; replace HO649 := rb_ HO649 hb; replace BK608 := kl_ BK608 hb; replace BK623 := kl_ BK623 hb; replace BK646 := kl_ BK646 hb; replace HB := ss_ HB hb; clear hb) | (go_at_call 14; (with_reducible refine (impl_LogNew.calls k  t653 t656 t657 _ A13.out).mono ?_); rintro e w62 ⟨v654, rfl, ho0, hb⟩; replace HO616 := rb_ HO616 hb; replace HO631 := rb_ HO631 hb; replace HO635 := rb_ HO635 hb; replace HO643 := rb_ HO643 hb; have HO655 := Aside0.mk (Kd.R_lower (Kd.R_new' (Kd.R_new' (Kd.R_new' (Kd.R_new' (Kd.R_new' (Kd.R_new' ho0 (lt_ HO605)) (lt_ HO611)) (lt_ HO619)) (lt_ HO626)) (lt_ HO638)) (lt_ HO649)) (sz_ HB)); replace HO605 := re_ HO605 ho0 hb; replace HO611 := re_ HO611 ho0 hb; replace HO619 := re_ HO619 ho0 hb; replace HO626 := re_ HO626 ho0 hb; replace HO638 := re_ HO638 ho0 hb; replace HO649 := re_ HO649 ho0 hb; replace BK608 := kl_ BK608 hb; replace BK623 := kl_ BK623 hb; replace BK646 := kl_ BK646 hb; replace HB := ss_ HB hb; clear hb ho0; obtain ⟨Ao63, co63, eo63⟩ := Kd.R_slice HO655.out; subst eo63; have hnb64 := NB623_608.out; have hnc64 := NB608_623.out; have hnb65 := NB623_646.out; have hnc65 := NB646_623.out; have hz66 := cz3_ BK623) | (go_at_call 18; (with_reducible refine (laws_sameTexts.calls k _ _ t617 _ _ t602 true _ ?side1 ?side2 ?side3 ?side4 A16.out).mono ?_); (case side1 => exact ch_ HO619); (case side2 => exact (cl_ HO619)); (case side3 => exact ch_ HO605); (case side4 => exact (cl_ HO605)); rintro e w' ⟨rfl, ⟨nd, rfl⟩⟩; have hnb67 := NB646_608.out; have hnc67 := NB608_646.out; have hz68 := cz5_ BK646) | (go_at_call 18; (with_reducible refine (laws_sameTexts.calls k _ _ t636 _ _ t602 true _ ?side1 ?side2 ?side3 ?side4 A19.out).mono ?_); (case side1 => exact ch_ HO638); (case side2 => exact (cl_ HO638)); (case side3 => exact ch_ HO605); (case side4 => exact (cl_ HO605)); rintro e w' ⟨rfl, ⟨nd, rfl⟩⟩) | (go_at_call 19; (with_reducible refine (impl_StoreOk.calls k _ _ t636 t639 t640 _ _ t641 t644 t660 _ ?side1 ?side2 ?side3 ?side4 A21.out).mono ?_); (case side1 => exact ch_ HO638); (case side2 => exact (cl_ HO638)); (case side3 => exact ch_ HO643); (case side4 => exact (cl_ HO643)); rintro e w69 ⟨rfl, hb⟩; replace HO605 := rb_ HO605 hb; replace HO611 := rb_ HO611 hb; replace HO616 := rb_ HO616 hb; replace HO619 := rb_ HO619 hb; replace HO626 := rb_ HO626 hb; replace HO631 := rb_ HO631 hb; replace HO635 := rb_ HO635 hb; replace HO638 := rb_ HO638 hb; replace HO643 := rb_ HO643 hb; replace HO649 := rb_ HO649 hb; replace HO655 := rb_ HO655 hb; replace BK608 := kl_ BK608 hb; replace BK623 := kl_ BK623 hb; replace BK646 := kl_ BK646 hb; replace HB := ss_ HB hb; clear hb))
  go_ret
  exact ⟨e2_, bw_ HB⟩
end Go.Proofs.Ytjnnglphdaemaaa.Q
end

section
/- The row of the law FnNew out of its pure statement and the printed walk. -/
namespace Go.Proofs.Ytjnnglphdaemaaa.Q
open Go.RowKit Go.Proofs.Ytjnnglphdaemaaa.XO Go.Proofs.YtjnnglphdaemaaaW.PrintWords Go.ChangeShapes Go.WideShapes Go.ChangeAt
set_option linter.unusedVariables false
set_option linter.unusedSimpArgs false
def laws_FnNew.Pure : Prop := ∀ (x0 : List Int), (x0.length ≤ 9223372036854775807 ∧ ∀ y0 ∈ x0, (Lit.int .u8 y0).wf = true) → ∃ k, laws_FnNew.f k x0 = some true
namespace RFnNew
theorem own : ownKnob Try.prog.godebug = none := by kernel_rfl
theorem laidOut : laidOutB Try.prog = true := by kernel_rfl
set_option maxRecDepth 100000 in
theorem lifted (PU : laws_FnNew.Pure) (os : Os) (started : os.Started) (H : Type) (enc : TypeId × Value → H) :
    ReturnsInHanded {} Try.checked os 3 .any (Rows.fnNewSpec.pre6 enc Try.prog Try.f3 Rows.fnNewRow.domain false) (Rows.fnNewSpec.post enc Try.prog Try.f3 false true false false) := by
  refine returnsInHanded_of_change_sized (C := Try.checked) own started (by kernel_rfl) Try.func3
    (ChangeSpec.witness6 (enc := enc) (C := Try.checked) false ⟨#[], #[.slice none 0 0], []⟩ 8 (by kernel_rfl) (by kernel_rfl) (by kernel_rfl) (by kernel_rfl)) ?_
  intro W base args ds gs before hval0 hW hcnd hsz0 _
  have hval : ∀ (j : Nat) t v, Try.f3.params[j]? = some t → args[j]? = some v → Value.okWide Try.prog W .any base t v := hval0
  have hW' := hW
  obtain ⟨p, q, hA0, hV, rfl, hfz, hnd⟩ := hW
  have hA : DataW.TrodAll enc Try.prog W 0 (fun _ => true) true Try.f3.params.toList args.toList ds p := hA0
  rw [Try.params3] at hA hval
  obtain ⟨v0, vs0, d0, ds0, p0, q0, hargs, rfl, rfl, h0, r0⟩ := trodAll_cons hA
  obtain ⟨rfl, rfl, rfl⟩ := trodAll_nil r0
  obtain rfl : args = #[v0] := by cases args; simp_all
  obtain ⟨rfl, rfl⟩ := trodVars_none hV
  have kk0 := h0
  have lt0 : ∀ x ∈ p0, x.block < W.heap.size := by obtain ⟨m, hm⟩ := kk0; exact DataW.trod_lt m _ _ _ hm
  obtain ⟨A0, len0, c0, rfl⟩ := okWide_slice Try.underlying22 (hval 0 22 v0 rfl rfl)
  obtain ⟨fu0, hf0⟩ := h0
  obtain ⟨x0, ⟨A0', c0', he0, hc0, hr0⟩, g0⟩ := (opens_slice Try.underlying22 (by kernel_rfl) (opens_int Try.underlying5)) hf0
  obtain ⟨rfl, rfl, rfl⟩ : A0 = A0' ∧ len0 = x0.length ∧ c0 = c0' := by simpa [Value.cells] using he0
  clear hA0 hval0 hsz0
  obtain ⟨k, hp⟩ := PU x0 g0
  refine (laws_FnNew.calls k _ _ x0 true W hr0 hc0 hp).mono fun e W' ⟨he, bel0⟩ => ?_
  have bel : Below W.heap.size W W' := bel0
  subst he
  exact ⟨_, rfl, _, _, _, [], _, [], hW', trodAll_mk1 (shut_bool Try.underlying4 _), (trodAll_cons_mk (Below.trod laidOut (by kernel_rfl) (of_decide_eq_true (by kernel_rfl)) kk0 bel lt0) trodAll_mk0), rfl, bel.frame _, fun h => by cases h⟩
theorem over (PU : laws_FnNew.Pure) : Rows.fnNewRow.holds Try.pinned (OpenSpec.ofChange Rows.fnNewSpec) :=
  OpenClaim.holds_of_wide 3 Try.f3 rfl rfl rfl rfl rfl rfl rfl ⟨rfl, rfl, rfl, rfl, rfl⟩ rfl rfl rfl rfl rfl (by kernel_rfl) Try.func3 (by kernel_rfl)
    (of_decide_eq_true (by kernel_rfl)) (by unfold Func.isWrapper; first | (rw [if_pos (by decide +kernel)]; kernel_rfl) | (rw [if_neg (by decide +kernel)]; exact ⟨rfl, rfl⟩))
    (fun os started H enc _ => lifted PU os started H enc)
end RFnNew
theorem FnNew_row (PU : laws_FnNew.Pure) : Rows.FnNewSaid := RFnNew.over PU
end Go.Proofs.Ytjnnglphdaemaaa.Q
end

section
/- A new log is right, has none, and what is extended by all texts of a head has it; no condition. -/
namespace Go.Proofs.Ytjnnglphdaemaaa.Q
open Go.RowKit Go.Proofs.Ytjnnglphdaemaaa.B Go.Proofs.YtjnnglphdaemaaaW.PrintWords
set_option linter.unusedVariables false
set_option linter.unusedSimpArgs false
theorem commit_fits {l : List ByteArray} {s : ByteArray} (hl : l.length ≤ 9) (hx : ∀ x ∈ l, x.size ≤ 3) (hs : s.size = 32) : (commitB l.length s l).length ≤ 1000 := by
  have w1 := commitB_length l.length s l
  have ht : total l ≤ 3 * (l.length : Int) := by
    clear w1 hl
    induction l with
    | nil => simp [total]
    | cons a l ih =>
      have h1 := hx a (by simp)
      have h2 := ih (fun x hm => hx x (by simp [hm]))
      rw [total_cons]
      simp only [List.length_cons]
      omega
  have hm := manyB_length l (fun x hm => by have := hx x hm; omega)
  have n1 := num_five (show l.length ≤ 1000000000 by omega)
  have n2 := num_five (show s.size ≤ 1000000000 by omega)
  have hb : (bodyB l.length s l).length ≤ 500 := by
    unfold bodyB textsB
    rw [List.length_append, List.length_append, List.length_append, textB_length]
    omega
  have n3 := num_five (show (bodyB l.length s l).length ≤ 1000000000 by omega)
  omega
theorem good_all {l : List ByteArray} (h1 : 1 ≤ l.length) (h2 : l.length ≤ 200) : Good [⟨(headOf l).1, (headOf l).2⟩] [] l.length (rootBy leafH l) l := by
  have hh := headOf_few h2
  refine ⟨?_, ?_, ?_, by simp⟩
  · unfold headOk
    rw [if_pos (by omega), root_32]
    rfl
  · unfold hasHead
    rw [hh]
    simp
  · unfold isHead
    rw [List.nil_append, hh]
    simp
theorem pure_FnNew : laws_FnNew.Pure := by
  intro l0 gl
  refine Ev.rounds (g := fun k => laws_FnNew.f k l0) ?_
  unfold laws_FnNew.f laws_big.f
  simp only [Option.bind_some]
  by_cases h : (l0.length : Int) > 1048576
  · rw [decide_eq_true h]
    exact Ev.pos rfl (Ev.now _)
  · rw [decide_eq_false h]
    obtain ⟨l, n, hD, hn, hl, hx⟩ := drawLeaves_ev l0 (by omega)
    have hB : ∀ x ∈ l, x.size ≤ bigB := fun x hm => by have := hx x hm; unfold bigB; omega
    have hg := good_all (l := l) (by omega) (by omega)
    have hh := headOf_few (l := l) (by omega)
    have hfit := commit_fits hl hx (root_32 l)
    have hE := impl_Extend_ev [⟨(headOf l).1, (headOf l).2⟩] [] (headOf []).1 (headOf []).2 (l.length : Int) (rootBy leafH l) l (by simp) (by simpa using hB) (by simp; omega)
    unfold extendOf at hE
    rw [if_pos (logOk_head (by simp)), ext_good (by omega) hg, List.nil_append] at hE
    have hC := commit_good [⟨(headOf l).1, (headOf l).2⟩] (by simp) [] (by simp [InB]) (opened_nil _ []) 0 (by omega) (by simp) (by omega) (by omega) hg (by simp; omega)
    rw [List.nil_append, List.nil_append] at hC
    have hO := opened_more (opened_nil [⟨(headOf l).1, (headOf l).2⟩] []) rfl (by omega) (by omega) (fun x hm => by have := hx x hm; omega) hg
    rw [List.nil_append, List.nil_append] at hO
    have hS := storeOk_opened _ _ (commitB_inB _ _ _) (by omega) hO 0 (by omega) (by omega)
    have hsame := laws_same_ev l l (by omega)
    rw [decide_eq_true rfl] at hsame
    rw [hh] at hE hC hS
    simp only at hE hC hS
    have hH := impl_HeadOf_ev l hB
    rw [hh] at hH
    refine Ev.neg (by simp) (Ev.bind hD (Ev.bind hH (Ev.bind impl_LogNew_ev (Ev.bind hE (Ev.bind impl_StoreNew_ev (Ev.bind hC (Ev.bind impl_LogNew_ev (Ev.bind (impl_LogOk_ev [] _ _ (by simp)) (Ev.pos (logOk_head (by simp)) (Ev.bind impl_LogNew_ev ?_))))))))))
    exact Ev.pos rfl (Ev.pos rfl (Ev.bind hsame (Ev.pos rfl (Ev.pos rfl (Ev.bind hsame (Ev.pos rfl (Ev.bind hS (Ev.now _))))))))
end Go.Proofs.Ytjnnglphdaemaaa.Q
namespace Go.Proofs.Ytjnnglphdaemaaa
theorem fnNew_holds : Rows.FnNewSaid := Q.FnNew_row Q.pure_FnNew
end Go.Proofs.Ytjnnglphdaemaaa
end

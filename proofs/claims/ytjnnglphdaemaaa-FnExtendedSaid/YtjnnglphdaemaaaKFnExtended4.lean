-- Joined and shortened by a program of this session (wip/tools/shakecopy.py): the words of the print, texts of pp.sh and of mine.
import Derived.Test.YtjnnglphdaemaaaKFnExtended3
import Derived.Deep.Slices
import Derived.ChangeArms
section
-- Written by a program of this session (wip/tools/pp.sh) over the print of the kit.
namespace Go.Proofs.Ytjnnglphdaemaaa.Q
open Go.RowKit Go.Proofs.YtjnnglphdaemaaaW.PrintWords Go.Proofs.YtjnnglphdaemaaaW.PrintLast Go.Proofs.YtjnnglphdaemaaaW.PrintMore
attribute [local go_sem] max2_int min2_int max_two min_two max_three min_three max_four min_four   -- for this text's walks alone
set_option linter.unusedVariables false
set_option linter.unusedSimpArgs false
end Go.Proofs.Ytjnnglphdaemaaa.Q
end

section
-- Written by a program of this session (wip/tools/pp.sh) over the print of the kit.
namespace Go.Proofs.Ytjnnglphdaemaaa.Q
open Go.RowKit Go.Proofs.YtjnnglphdaemaaaW.PrintWords Go.Proofs.YtjnnglphdaemaaaW.PrintLast Go.Proofs.YtjnnglphdaemaaaW.PrintMore
attribute [local go_sem] max2_int min2_int max_two min_two max_three min_three max_four min_four   -- for this text's walks alone
set_option linter.unusedVariables false
set_option linter.unusedSimpArgs false
end Go.Proofs.Ytjnnglphdaemaaa.Q
end

section
/- Arguments that were read as data, opened as Lean values: numbers, bools, strings, slices of whatever kind; structs by their fields. For the rows of this seat's laws. -/
namespace Go.Proofs.Ytjnnglphdaemaaa.XO
open Go.RowKit Go.Proofs.YtjnnglphdaemaaaW.PrintWords Go.ChangeShapes Go.WideShapes
def Opens {α : Type} (P : Program) (d : Kd α) (t : TypeId) (G : α → Prop) : Prop :=
 ∀ {H : Type} {enc : TypeId × Value → H} {w : World} {base : Nat} {spare : Nat → Bool} {held : Bool} {fuel : Nat} {cs : List Value} {x : DataW H × List MemPlace},
  DataW.trod enc P w base spare held fuel t cs = some x → ∃ a : α, d.K w a cs ∧ G a
variable {P : Program} {t : TypeId}
theorem add_add (a : Addr) (x i : Nat) : (a.add x).add i = a.add (x + i) := by
 unfold Addr.add
 by_cases hx : x = 0
 ·subst hx
  simp
 ·by_cases hi : i = 0
  ·subst hi
   simp
  ·simp [hx, hi, Nat.add_assoc]
theorem cells_read {w : World} {base : Nat} {a : Addr} {x n : Nat} {cs : List Value} (h : w.cells? base (a.add x) n = some cs) (i : Nat) (u : Value) (hu : cs[i]? = some u) : w.cell? (a.add (x + i)) = some u := by
 unfold World.cells? at h
 split at h
 ·have hl : cs.length = n := by simpa using mapM_some_length h
  have hi : i < n := by
   rw [← hl]
   exact (List.getElem?_eq_some_iff.1 hu).1
  have hg := mapM_some_get h i i (by simp [hi])
  rw [hu, add_add] at hg
  exact hg
 ·exact absurd h (by simp)
theorem family {α : Type} {p : Nat → α → Prop} (n : Nat) (h : ∀ i, i < n → ∃ x, p i x) : ∃ xs : List α, xs.length = n ∧ ∀ i x, xs[i]? = some x → p i x := by
 induction n with
 | zero => exact ⟨[], rfl, fun i x hx => by simp at hx⟩
 | succ n ih =>
  obtain ⟨xs, h1, h2⟩ := ih (fun i hi => h i (by omega))
  obtain ⟨y, hy⟩ := h n (by omega)
  refine ⟨xs ++ [y], by simp [h1], fun i x hx => ?_⟩
  by_cases hi : i < xs.length
  ·rw [List.getElem?_append_left hi] at hx
   exact h2 i x hx
  ·rw [List.getElem?_append_right (by omega)] at hx
   have hz : i - xs.length = 0 := by
    rcases Nat.eq_zero_or_pos (i - xs.length) with hz | hz
    ·exact hz
    ·rw [List.getElem?_eq_none (by simp; omega)] at hx
     exact absurd hx (by simp)
   rw [hz] at hx
   have hxy : y = x := by simpa using hx
   have hin : i = n := by omega
   rw [← hxy, hin]
   exact hy
theorem opens_int {k : IntKind} (ht : P.underlying t = some (.int k)) : Opens P (Kd.int k) t (fun n => (Lit.int k n).wf = true) := by
 intro H enc w base spare held fuel cs x h
 obtain ⟨n, rfl, _, hw⟩ := DataW.trod_int ht h
 exact ⟨n, rfl, hw⟩
theorem opens_slice {α : Type} {d : Kd α} {G : α → Prop} {e : TypeId} (ht : P.underlying t = some (.slice e)) (hc : P.cellsOf e = d.sz) (h0 : Opens P d e G) :
  Opens P (Kd.slice e d) t (fun l => l.length ≤ 9223372036854775807 ∧ ∀ x ∈ l, G x) := by
 intro H enc w base spare held fuel cs x h
 rcases Go.Deep.open_slice ht h with ⟨rfl, _⟩ | ⟨a, len, cap, m, n, D, Pl, rfl, _, hl, hm, hmm, _, hel⟩
 ·exact ⟨[], ⟨none, 0, rfl, Nat.le_refl _, rfl, by simp, fun hp => absurd hp (by simp)⟩, by simp, fun x hx => absurd hx (by simp)⟩
 ·have hlm : len ≤ m := by
   rw [hmm]
   split
   ·exact hl
   ·exact Nat.le_refl _
  have hall : ∀ i, i < len → ∃ x : α, (∃ cs', w.cells? base (a.add (i * P.cellsOf e)) (P.cellsOf e) = some cs' ∧ d.K w x cs') ∧ G x := by
   intro i hi
   obtain ⟨cs', h1, h2⟩ := hel i (by omega)
   obtain ⟨x, hk, hg⟩ := h0 h2
   exact ⟨x, ⟨cs', h1, hk⟩, hg⟩
  have hlen : len ≤ 9223372036854775807 := by simp only [maxLen] at hm; omega
  obtain ⟨xs, h1, h2⟩ := family len hall
  refine ⟨xs, ⟨some a, cap, by rw [h1], by omega, rfl, by omega, fun _ => ⟨a, rfl, fun j p hj => ?_⟩⟩, by omega, fun x hx => ?_⟩
  ·obtain ⟨⟨cs', hc1, hk⟩, _⟩ := h2 j p hj
   refine ⟨cs', d.K_len hk, hk, fun i u hu => ?_⟩
   rw [hc] at hc1
   exact cells_read hc1 i u hu
  ·obtain ⟨i, hi⟩ := List.getElem?_of_mem hx
   exact (h2 i x hi).2
end Go.Proofs.Ytjnnglphdaemaaa.XO
end

section
/- Which Lean values the laws' arguments are opened to: each struct type by its fields. -/
namespace Go.Proofs.Ytjnnglphdaemaaa.Q
open Go.RowKit Go.Proofs.Ytjnnglphdaemaaa.XO Go.Proofs.YtjnnglphdaemaaaW.PrintWords Go.ChangeShapes Go.WideShapes
set_option linter.unusedVariables false
set_option linter.unusedSimpArgs false
end Go.Proofs.Ytjnnglphdaemaaa.Q
end

section
/- What the laws' own helpers do with lists of heads: the copy of a list has its heads; a list equals itself; its weight. -/
namespace Go.Proofs.Ytjnnglphdaemaaa.Q
open Go.RowKit Go.Proofs.Ytjnnglphdaemaaa.B Go.Proofs.YtjnnglphdaemaaaW.PrintWords
abbrev IHead := S28
end Go.Proofs.Ytjnnglphdaemaaa.Q
end

section
-- Written by a program of this session (wip/tools/pp.sh) over the print of the kit.
namespace Go.Proofs.Ytjnnglphdaemaaa.Q
open Go.RowKit Go.Proofs.YtjnnglphdaemaaaW.PrintWords Go.Proofs.YtjnnglphdaemaaaW.PrintLast Go.Proofs.YtjnnglphdaemaaaW.PrintMore
attribute [local go_sem] max2_int min2_int max_two min_two max_three min_three max_four min_four   -- for this text's walks alone
set_option linter.unusedVariables false
set_option linter.unusedSimpArgs false
def spec_l10Any.j0 : Nat → List (S28) → List Int → Int → Int → Option ((List (S28)) × Int × Int)
 | 0, _, _, _, _ => none
 | k + 1, x3, x1000, x1001, x1002 => (spec_l1Once.f x1000 x1001 x1002 6).bind fun bt627 => (if bt627.1 = true then ((spec_l1Int.f x1000 bt627.2.1 bt627.2.2 (([(-1), 2, 201] : List Int))).bind fun bt633 => (if x3.length < 5864062014805 then (some ((x3 ++ [(⟨bt633.1, (⟨#[120]⟩ : ByteArray)⟩ : S28)]), bt633.2.1, bt633.2.2)) else (none))) else (some (x3, bt627.2.1, bt627.2.2)))
def spec_l10Any.f (k : Nat) (s0_0 : List Int) (s0_1 : Int) (s0_2 : Int) : Option ((List (S28)) × Int × Int) := (spec_l6List.f k s0_0 s0_1 s0_2).bind fun bt601 => ((spec_l10Table.f k s0_0 bt601.2.1 bt601.2.2 bt601.1).bind fun bt606 => ((spec_l1Once.f s0_0 bt606.2.1 bt606.2.2 3).bind fun bt611 => (if bt611.1 = true then ((spec_l1Below.f s0_0 bt611.2.1 bt611.2.2 4).bind fun bt614 => ((spec_l1Below.f s0_0 bt614.2.1 bt614.2.2 3).bind fun bt617 => ((spec_Digest.f k (([(bt617.1) % 256] : List Int))).bind fun t623 => (if bt606.1.length < 5864062014805 then (spec_l10Any.j0 k (bt606.1 ++ [(⟨bt614.1, t623⟩ : S28)]) s0_0 bt617.2.1 bt617.2.2) else (none))))) else (spec_l10Any.j0 k bt606.1 s0_0 bt611.2.1 bt611.2.2))))
set_option maxHeartbeats 8000000 in
set_option maxRecDepth 100000 in
theorem spec_l10Any.calls (k : Nat) (g : Nat) (s0_0 : List Int) (s0_1 : Int) (s0_2 : Int) (r1 : List (S28)) (r2 : Int) (r3 : Int) (w0 w : World) (hI : IsS111 w0 w g s0_0 s0_1 s0_2) (hB : Below w0.heap.size w0 w) (h : spec_l10Any.f k s0_0 s0_1 s0_2 = some (r1, r2, r3)) :
  Calls Try.prog 74 #[.pointer (some ⟨g, 0, none⟩)] w fun e w' => ∃ v0_ : Value, e = .returned (v0_) ∧ Kd.R k28 28 w' w.heap.size (fun _ => True) v0_ r1 ∧ IsS111 w0 w' g s0_0 r2 r3 ∧ Below w0.heap.size w0 w' ∧ KeepBut w w' g none := by
 have hu28 := Try.underlying28
 have HI0 := Aside0.mk hI
 have HK := Aside0.mk (KeepBut.refl w g none)
 have HL := Aside0.mk hB.size
 clear hI
 have HW0 := Aside0.mk hB.size
 have HB := Aside0.mk hB
 clear hB
 have H : ((spec_l6List.f k s0_0 s0_1 s0_2).bind fun bt601 => ((spec_l10Table.f k s0_0 bt601.2.1 bt601.2.2 bt601.1).bind fun bt606 => ((spec_l1Once.f s0_0 bt606.2.1 bt606.2.2 3).bind fun bt611 => (if bt611.1 = true then ((spec_l1Below.f s0_0 bt611.2.1 bt611.2.2 4).bind fun bt614 => ((spec_l1Below.f s0_0 bt614.2.1 bt614.2.2 3).bind fun bt617 => ((spec_Digest.f k (([(bt617.1) % 256] : List Int))).bind fun t623 => (if bt606.1.length < 5864062014805 then (spec_l10Any.j0 k (bt606.1 ++ [(⟨bt614.1, t623⟩ : S28)]) s0_0 bt617.2.1 bt617.2.2) else (none))))) else (spec_l10Any.j0 k bt606.1 s0_0 bt611.2.1 bt611.2.2))))) = some (r1, r2, r3) := h
 clear h
 replace H := bi_ H; obtain ⟨⟨t601, t604, t605⟩, A2, H⟩ := H
 dsimp only at H
 replace H := bi_ H; obtain ⟨⟨t606, t609, t610⟩, A3, H⟩ := H
 dsimp only at H
 replace H := bi_ H; obtain ⟨⟨t611, t612, t613⟩, A4, H⟩ := H
 dsimp only at H
 have HC5 := Aside0.mk H
 clear H
 go_enter Try.func74, Try.ntmps74
 go_upto_if 9 with (first | ((with_reducible refine gk_ 60 ?_); refine gl_ 6 Try.func60 #[.pointer (some ⟨g, 0, none⟩)] ?_; (with_reducible refine (spec_l6List.calls k g s0_0 s0_1 s0_2 t601 t604 t605 w0 _ ?side1 ?side2 A2.out).mono ?_); (case side1 => repeat (first | (with_reducible first | exact HI0.out | apply IsS111.alloc | apply IsS111.drewN | apply IsS111.drew | apply IsS111.set_1 | apply IsS111.set_2) | exact HI0.out)); (case side2 => repeat (first | (with_reducible first | exact HB.out | apply below_alloc | apply pw_below_drewN | apply below_drew1 | refine below_set ?_ (IsS111.ge HI0.out)) | exact HB.out)); rintro e w6 ⟨v602, rfl, ho0, hi, hb, hk⟩; refine ⟨_, rfl, ?_⟩; have HO603 := Aside0.mk (Kd.R_lower ho0 (keep_size (w := w) (g := g) (row := none) (by repeat (first | (with_reducible first | exact HK.out | apply KeepBut.set_ | apply keep_drewN | apply keep_drew | apply keep_alloc) | exact HK.out)))); replace HK := Aside0.mk (KeepBut.trans (by repeat (first | (with_reducible first | exact HK.out | apply KeepBut.set_ | apply keep_drewN | apply keep_drew | apply keep_alloc) | exact HK.out)) hk (.inl rfl)); replace HB := Aside0.mk hb; replace HI0 := Aside0.mk hi; clear hb hk hi ho0; obtain ⟨Ao7, co7, eo7⟩ := Kd.R_slice HO603.out; subst eo7) | ((with_reducible refine gk_ 71 ?_); refine gl_ 7 Try.func71 #[.pointer (some ⟨g, 0, none⟩), .slice Ao7 t601.length co7] ?_; (with_reducible refine (spec_l10Table.calls k g s0_0 t604 t605 _ _ t601 t606 t609 t610 w0 _ ?side1 ?side2 ?side3 ?side4 ?side5 A3.out).mono ?_); (case side1 => repeat (first | (with_reducible first | exact HI0.out | apply IsS111.alloc | apply IsS111.drewN | apply IsS111.drew | apply IsS111.set_1 | apply IsS111.set_2) | exact HI0.out)); (case side2 => repeat (first | (with_reducible first | exact HB.out | apply below_alloc | apply pw_below_drewN | apply below_drew1 | refine below_set ?_ (IsS111.ge HI0.out)) | exact HB.out)); (case side3 => exact ch_ HO603); (case side4 => exact (cl_ HO603)); (case side5 => exact far_slice (IsS111.own_ne HI0.out HO603.out (by decide))); rintro e w8 ⟨v607, rfl, ho0, hi, hb, hk⟩; refine ⟨_, rfl, ?_⟩; replace HO603 := Aside0.mk (Kd.R_mono (Kd.R_keep (IsS111.apart (show IsS111 w0 _ g s0_0 t604 t605 from by repeat (first | (with_reducible first | exact HI0.out | apply IsS111.alloc | apply IsS111.drewN | apply IsS111.drew | apply IsS111.set_1 | apply IsS111.set_2) | exact HI0.out)) (kr_ HO603.out) (by decide)) hk (fun _ h => h.2)) (fun _ h => h.1)); have HO608 := Aside0.mk (Kd.R_lower ho0 (keep_size (w := w) (g := g) (row := none) (by repeat (first | (with_reducible first | exact HK.out | apply KeepBut.set_ | apply keep_drewN | apply keep_drew | apply keep_alloc) | exact HK.out)))); replace HK := Aside0.mk (KeepBut.trans (by repeat (first | (with_reducible first | exact HK.out | apply KeepBut.set_ | apply keep_drewN | apply keep_drew | apply keep_alloc) | exact HK.out)) hk (.inl rfl)); replace HB := Aside0.mk hb; replace HI0 := Aside0.mk hi; clear hb hk hi ho0) | ((with_reducible refine gk_ 75 ?_); refine gl_ 9 Try.func75 #[.pointer (some ⟨g, 0, none⟩), .int .i64 3] ?_; (with_reducible refine (spec_l1Once.calls g s0_0 t609 t610 3 t611 t612 t613 w0 _ ?side1 ?side2 A4.out).mono ?_); (case side1 => repeat (first | (with_reducible first | exact HI0.out | apply IsS111.alloc | apply IsS111.drewN | apply IsS111.drew | apply IsS111.set_1 | apply IsS111.set_2) | exact HI0.out)); (case side2 => repeat (first | (with_reducible first | exact HB.out | apply below_alloc | apply pw_below_drewN | apply below_drew1 | refine below_set ?_ (IsS111.ge HI0.out)) | exact HB.out)); rintro e w9 ⟨rfl, hi, hb, hk⟩; refine ⟨_, rfl, ?_⟩; replace HO603 := Aside0.mk (Kd.R_mono (Kd.R_keep (IsS111.apart (show IsS111 w0 _ g s0_0 t609 t610 from by repeat (first | (with_reducible first | exact HI0.out | apply IsS111.alloc | apply IsS111.drewN | apply IsS111.drew | apply IsS111.set_1 | apply IsS111.set_2) | exact HI0.out)) (kr_ HO603.out) (by decide)) hk (fun _ h => h.2)) (fun _ h => h.1)); replace HO608 := Aside0.mk (Kd.R_mono (Kd.R_keep (IsS111.apart (show IsS111 w0 _ g s0_0 t609 t610 from by repeat (first | (with_reducible first | exact HI0.out | apply IsS111.alloc | apply IsS111.drewN | apply IsS111.drew | apply IsS111.set_1 | apply IsS111.set_2) | exact HI0.out)) (kr_ HO608.out) (by decide)) hk (fun _ h => h.2)) (fun _ h => h.1)); replace HK := Aside0.mk (KeepBut.trans (by repeat (first | (with_reducible first | exact HK.out | apply KeepBut.set_ | apply keep_drewN | apply keep_drew | apply keep_alloc) | exact HK.out)) hk (.inl rfl)); replace HB := Aside0.mk hb; replace HI0 := Aside0.mk hi; clear hb hk hi))
 (try simp only [Act.put, List.setIfInBounds_toArray, List.set_cons_zero, List.set_cons_succ])
 go_cut [3] (fun v3 wc => ∃ (kq : Nat) (x3_4 : List (S28)) (x1001_4 : Int) (x1002_4 : Int), Aside0 (spec_l10Any.j0 kq x3_4 s0_0 x1001_4 x1002_4 = some (r1, r2, r3)) ∧ Aside0 (kq ≤ k) ∧ Aside0 (Kd.R k28 28 wc w.heap.size (fun _ => True) v3 x3_4) ∧ Aside0 (IsS111 w0 wc g s0_0 x1001_4 x1002_4) ∧ Aside0 (KeepBut w wc g none) ∧ Aside0 (Below w0.heap.size w0 wc))
 case first =>
  have H := HC5.out
  clear HC5
  replace H := itb_ H; obtain ⟨rfl, H⟩ | ⟨rfl, H⟩ := H
  ·replace H := bi_ H; obtain ⟨⟨t614, t615, t616⟩, A11, H⟩ := H
   dsimp only at H
   replace H := bi_ H; obtain ⟨⟨t617, t618, t619⟩, A12, H⟩ := H
   dsimp only at H
   obtain ⟨y620, hy620⟩ : ∃ y_ : List Int, y_ = (([(t617) % 256] : List Int)) := ⟨_, rfl⟩
   replace H : ((spec_Digest.f k y620).bind fun t623 => (if t606.length < 5864062014805 then (spec_l10Any.j0 k (t606 ++ [(⟨t614, t623⟩ : S28)]) s0_0 t618 t619) else (none))) = some (r1, r2, r3) := yh_ hy620 H
   have Ny620 := Aside0.mk hy620
   clear hy620
   replace H := bi_ H; obtain ⟨t623, A13, H⟩ := H
   replace H := ip_ H; obtain ⟨c14, H⟩ := H
   have LMc14 := Aside0.mk c14
   clear c14
   obtain ⟨y624, hy624⟩ : ∃ y_ : List (S28), y_ = (t606 ++ [(⟨t614, t623⟩ : S28)]) := ⟨_, rfl⟩
   replace H : (spec_l10Any.j0 k y624 s0_0 t618 t619) = some (r1, r2, r3) := yh_ hy624 H
   have Ny624 := Aside0.mk hy624
   clear hy624
   have H' := Aside0.mk H
   clear H
   go_wp2_with (first | ((with_reducible refine gk_ 61 ?_); refine gl_ 12 Try.func61 #[.pointer (some ⟨g, 0, none⟩), .int .i64 4] ?_; (with_reducible refine (spec_l1Below.calls g s0_0 t612 t613 4 t614 t615 t616 w0 _ ?side1 ?side2 A11.out).mono ?_); (case side1 => repeat (first | (with_reducible first | exact HI0.out | apply IsS111.alloc | apply IsS111.drewN | apply IsS111.drew | apply IsS111.set_1 | apply IsS111.set_2) | exact HI0.out)); (case side2 => repeat (first | (with_reducible first | exact HB.out | apply below_alloc | apply pw_below_drewN | apply below_drew1 | refine below_set ?_ (IsS111.ge HI0.out)) | exact HB.out)); rintro e w15 ⟨rfl, hi, hb, hk⟩; refine ⟨_, rfl, ?_⟩; replace HO603 := Aside0.mk (Kd.R_mono (Kd.R_keep (IsS111.apart (show IsS111 w0 _ g s0_0 t612 t613 from by repeat (first | (with_reducible first | exact HI0.out | apply IsS111.alloc | apply IsS111.drewN | apply IsS111.drew | apply IsS111.set_1 | apply IsS111.set_2) | exact HI0.out)) (kr_ HO603.out) (by decide)) hk (fun _ h => h.2)) (fun _ h => h.1)); replace HO608 := Aside0.mk (Kd.R_mono (Kd.R_keep (IsS111.apart (show IsS111 w0 _ g s0_0 t612 t613 from by repeat (first | (with_reducible first | exact HI0.out | apply IsS111.alloc | apply IsS111.drewN | apply IsS111.drew | apply IsS111.set_1 | apply IsS111.set_2) | exact HI0.out)) (kr_ HO608.out) (by decide)) hk (fun _ h => h.2)) (fun _ h => h.1)); replace HK := Aside0.mk (KeepBut.trans (by repeat (first | (with_reducible first | exact HK.out | apply KeepBut.set_ | apply keep_drewN | apply keep_drew | apply keep_alloc) | exact HK.out)) hk (.inl rfl)); replace HB := Aside0.mk hb; replace HI0 := Aside0.mk hi; clear hb hk hi) | ((with_reducible refine gk_ 61 ?_); refine gl_ 14 Try.func61 #[.pointer (some ⟨g, 0, none⟩), .int .i64 3] ?_; (with_reducible refine (spec_l1Below.calls g s0_0 t615 t616 3 t617 t618 t619 w0 _ ?side1 ?side2 A12.out).mono ?_); (case side1 => repeat (first | (with_reducible first | exact HI0.out | apply IsS111.alloc | apply IsS111.drewN | apply IsS111.drew | apply IsS111.set_1 | apply IsS111.set_2) | exact HI0.out)); (case side2 => repeat (first | (with_reducible first | exact HB.out | apply below_alloc | apply pw_below_drewN | apply below_drew1 | refine below_set ?_ (IsS111.ge HI0.out)) | exact HB.out)); rintro e w16 ⟨rfl, hi, hb, hk⟩; refine ⟨_, rfl, ?_⟩; replace HO603 := Aside0.mk (Kd.R_mono (Kd.R_keep (IsS111.apart (show IsS111 w0 _ g s0_0 t615 t616 from by repeat (first | (with_reducible first | exact HI0.out | apply IsS111.alloc | apply IsS111.drewN | apply IsS111.drew | apply IsS111.set_1 | apply IsS111.set_2) | exact HI0.out)) (kr_ HO603.out) (by decide)) hk (fun _ h => h.2)) (fun _ h => h.1)); replace HO608 := Aside0.mk (Kd.R_mono (Kd.R_keep (IsS111.apart (show IsS111 w0 _ g s0_0 t615 t616 from by repeat (first | (with_reducible first | exact HI0.out | apply IsS111.alloc | apply IsS111.drewN | apply IsS111.drew | apply IsS111.set_1 | apply IsS111.set_2) | exact HI0.out)) (kr_ HO608.out) (by decide)) hk (fun _ h => h.2)) (fun _ h => h.1)); replace HK := Aside0.mk (KeepBut.trans (by repeat (first | (with_reducible first | exact HK.out | apply KeepBut.set_ | apply keep_drewN | apply keep_drew | apply keep_alloc) | exact HK.out)) hk (.inl rfl)); replace HB := Aside0.mk hb; replace HI0 := Aside0.mk hi; clear hb hk hi) | ((with_reducible refine gd_ 16 ?_); refine rl_ (Kd.int .u8) 5 16 ([(t617) % 256] : List Int) [.int .u8 ((t617) % 256)] ?_; intro v621 w17 ho18 hb hg_ hnew_; clear hg_ hnew_; (first | rw [← Ny620.out] at ho18 | (simp only [Int.reduceToNat] at ho18; rw [← Ny620.out] at ho18)); replace HO603 := rb_ HO603 hb; replace HO608 := rb_ HO608 hb; have HO622 := Aside0.mk (Kd.R_lower ho18 (keep_size (w := w) (g := g) (row := none) (by repeat (first | (with_reducible first | exact HK.out | apply KeepBut.set_ | apply keep_drewN | apply keep_drew | apply keep_alloc) | exact HK.out)))); replace HK := Aside0.mk (KeepBut.trans (by repeat (first | (with_reducible first | exact HK.out | apply KeepBut.set_ | apply keep_drewN | apply keep_drew | apply keep_alloc) | exact HK.out)) (KeepBut.of_below hb g none) (.inl rfl)); replace HB := Aside0.mk (below_step (bs1_ HB (IsS111.ge HI0.out)) hb); replace HI0 := Aside0.mk (IsS111.below (by repeat (first | (with_reducible first | exact HI0.out | apply IsS111.alloc | apply IsS111.drewN | apply IsS111.drew | apply IsS111.set_1 | apply IsS111.set_2) | exact HI0.out)) hb); clear hb ho18; obtain ⟨Ao19, co19, eo19⟩ := Kd.R_slice HO622.out; subst eo19) | ((with_reducible refine gq_ 114 17 ?_); refine gc_ 17 Try.func114 (spec_Digest.calls k _ _ y620 t623 _ (ch_ HO622) (cl_ HO622) A13.out) ?_; rintro e w20 ⟨rfl, hb⟩; refine ⟨_, rfl, ?_⟩; replace HO603 := rb_ HO603 hb; replace HO608 := rb_ HO608 hb; replace HO622 := rb_ HO622 hb; replace HK := Aside0.mk (KeepBut.trans (by repeat (first | (with_reducible first | exact HK.out | apply KeepBut.set_ | apply keep_drewN | apply keep_drew | apply keep_alloc) | exact HK.out)) (KeepBut.of_below hb g none) (.inl rfl)); replace HB := Aside0.mk (below_step (bs1_ HB (IsS111.ge HI0.out)) hb); replace HI0 := Aside0.mk (IsS111.below (by repeat (first | (with_reducible first | exact HI0.out | apply IsS111.alloc | apply IsS111.drewN | apply IsS111.drew | apply IsS111.set_1 | apply IsS111.set_2) | exact HI0.out)) hb); clear hb) | ((with_reducible refine gate_builtin (b := .append) (xs := #[.tmp 10, .tmp 19]) rfl ?_); at_builtin; refine Kd.R_append k28 w.heap.size rfl (.tmp 10) (.tmp 19) 35 28 (.agg #[(.int .i64 0), (.string ⟨#[]⟩)]) 24 rfl Try.underlying35 info28 rfl (by decide) (by omega) v607 t606 (⟨t614, t623⟩ : S28) [.int .i64 t614, .string t623] (fun _ => True) (fun _ => False) rfl rfl ?aP (fun _ hk => hk.elim) ?aF ?aO (Below.refl _ _) ?aS ?aL ?_; (case aP => exact k28_mkM _ _ _ (⟨t614, t623⟩ : S28)); (case aF => exact (fun _ _ => trivial)); (case aO => exact (kr_ HO608.out)); (case aS => exact (keep_size (w := w) (g := g) (row := none) (by repeat (first | (with_reducible first | exact HK.out | apply KeepBut.set_ | apply keep_drewN | apply keep_drew | apply keep_alloc) | exact HK.out)))); (case aL => have := LMc14.out; omega); intro v625 w21 ho hb hg hat; rw [← Ny624.out] at ho; replace HO603 := Aside0.mk (Kd.R_over' (kr_ HO603.out) (Kd.R_typed (kr_ HO608.out)) (by decide) hg); replace HO622 := Aside0.mk (Kd.R_over' (kr_ HO622.out) (Kd.R_typed (kr_ HO608.out)) (by decide) hg); replace HB := Aside0.mk (below_weaken (bs1_ HB (IsS111.ge HI0.out)) HL.out hb); replace HI0 := Aside0.mk (IsS111.grown (by repeat (first | (with_reducible first | exact HI0.out | apply IsS111.alloc | apply IsS111.drewN | apply IsS111.drew | apply IsS111.set_1 | apply IsS111.set_2) | exact HI0.out)) hg (IsS111.own_ne HI0.out HO608.out (by decide))); replace HK := Aside0.mk (KeepBut.trans (by repeat (first | (with_reducible first | exact HK.out | apply KeepBut.set_ | apply keep_drewN | apply keep_drew | apply keep_alloc) | exact HK.out)) (KeepBut.of_grown hg g) (Kd.R_base2 HO608.out)); have HO626 := Aside0.mk ho; clear HO608; clear ho hb hg hat))
   go_meet
   case rel => exact ⟨_, (y624), (t618), (t619), H', ⟨le_⟩, ⟨kr_ HO626.out⟩, ⟨by repeat (first | (with_reducible first | exact HI0.out | apply IsS111.alloc | apply IsS111.drewN | apply IsS111.drew | apply IsS111.set_1 | apply IsS111.set_2) | exact HI0.out)⟩, ⟨by repeat (first | (with_reducible first | exact HK.out | apply KeepBut.set_ | apply keep_drewN | apply keep_drew | apply keep_alloc) | exact HK.out)⟩, ⟨by repeat (first | (with_reducible first | exact HB.out | apply below_alloc | apply pw_below_drewN | apply below_drew1 | refine below_set ?_ (IsS111.ge HI0.out)) | exact HB.out)⟩⟩
  ·have H' := Aside0.mk H
   clear H
   go_wp2
   go_meet
   case rel => exact ⟨_, (t606), (t612), (t613), H', ⟨le_⟩, ⟨kr_ HO608.out⟩, ⟨by repeat (first | (with_reducible first | exact HI0.out | apply IsS111.alloc | apply IsS111.drewN | apply IsS111.drew | apply IsS111.set_1 | apply IsS111.set_2) | exact HI0.out)⟩, ⟨by repeat (first | (with_reducible first | exact HK.out | apply KeepBut.set_ | apply keep_drewN | apply keep_drew | apply keep_alloc) | exact HK.out)⟩, ⟨by repeat (first | (with_reducible first | exact HB.out | apply below_alloc | apply pw_below_drewN | apply below_drew1 | refine below_set ?_ (IsS111.ge HI0.out)) | exact HB.out)⟩⟩
 case rest =>
  clear HC5
  obtain ⟨kq, x3_4, x1001_4, x1002_4, HA, HJ4, HO_3, HI0, HK, HB⟩ := hcut
  cases kq with
  | zero => exact absurd HA.out (by simp [spec_l10Any.j0])
  | succ kj4 =>
   have H := HA.out
   clear HA
   simp only [spec_l10Any.j0] at H
   replace H := bi_ H; obtain ⟨⟨t627, t628, t629⟩, A22, H⟩ := H
   dsimp only at H
   replace H := itb_ H; obtain ⟨rfl, H⟩ | ⟨rfl, H⟩ := H
   ·obtain ⟨y630, hy630⟩ : ∃ y_ : List Int, y_ = (([(-1), 2, 201] : List Int)) := ⟨_, rfl⟩
    replace H : ((spec_l1Int.f s0_0 t628 t629 y630).bind fun bt633 => (if x3_4.length < 5864062014805 then (some ((x3_4 ++ [(⟨bt633.1, (⟨#[120]⟩ : ByteArray)⟩ : S28)]), bt633.2.1, bt633.2.2)) else (none))) = some (r1, r2, r3) := yh_ hy630 H
    have Ny630 := Aside0.mk hy630
    clear hy630
    replace H := bi_ H; obtain ⟨⟨t633, t634, t635⟩, A24, H⟩ := H
    dsimp only at H
    replace H := ip_ H; obtain ⟨c25, H⟩ := H
    have LMc25 := Aside0.mk c25
    clear c25
    obtain ⟨y636, hy636⟩ : ∃ y_ : List (S28), y_ = (x3_4 ++ [(⟨t633, (⟨#[120]⟩ : ByteArray)⟩ : S28)]) := ⟨_, rfl⟩
    replace H : (some (y636, t634, t635)) = some (r1, r2, r3) := yh_ hy636 H
    have Ny636 := Aside0.mk hy636
    clear hy636
    replace H := so3_ H; obtain ⟨rfl, rfl, rfl⟩ := H
    go_wp2_with (first | ((with_reducible refine gk_ 75 ?_); refine gl_ 22 Try.func75 #[.pointer (some ⟨g, 0, none⟩), .int .i64 6] ?_; (with_reducible refine (spec_l1Once.calls g s0_0 x1001_4 x1002_4 6 true t628 t629 w0 _ ?side1 ?side2 A22.out).mono ?_); (case side1 => repeat (first | (with_reducible first | exact HI0.out | apply IsS111.alloc | apply IsS111.drewN | apply IsS111.drew | apply IsS111.set_1 | apply IsS111.set_2) | exact HI0.out)); (case side2 => repeat (first | (with_reducible first | exact HB.out | apply below_alloc | apply pw_below_drewN | apply below_drew1 | refine below_set ?_ (IsS111.ge HI0.out)) | exact HB.out)); rintro e w26 ⟨rfl, hi, hb, hk⟩; refine ⟨_, rfl, ?_⟩; replace HO_3 := Aside0.mk (Kd.R_mono (Kd.R_keep (IsS111.apart (show IsS111 w0 _ g s0_0 x1001_4 x1002_4 from by repeat (first | (with_reducible first | exact HI0.out | apply IsS111.alloc | apply IsS111.drewN | apply IsS111.drew | apply IsS111.set_1 | apply IsS111.set_2) | exact HI0.out)) (kr_ HO_3.out) (by decide)) hk (fun _ h => h.2)) (fun _ h => h.1)); replace HK := Aside0.mk (KeepBut.trans (by repeat (first | (with_reducible first | exact HK.out | apply KeepBut.set_ | apply keep_drewN | apply keep_drew | apply keep_alloc) | exact HK.out)) hk (.inl rfl)); replace HB := Aside0.mk hb; replace HI0 := Aside0.mk hi; clear hb hk hi) | ((with_reducible refine gd_ 25 ?_); refine rl_ (Kd.int .i64) 3 25 ([(-1), 2, 201] : List Int) [.int .i64 (-1), .int .i64 2, .int .i64 201] ?_; intro v631 w27 ho28 hb hg_ hnew_; clear hg_ hnew_; (first | rw [← Ny630.out] at ho28 | (simp only [Int.reduceToNat] at ho28; rw [← Ny630.out] at ho28)); replace HO_3 := rb_ HO_3 hb; have HO632 := Aside0.mk (Kd.R_lower ho28 (keep_size (w := w) (g := g) (row := none) (by repeat (first | (with_reducible first | exact HK.out | apply KeepBut.set_ | apply keep_drewN | apply keep_drew | apply keep_alloc) | exact HK.out)))); replace HK := Aside0.mk (KeepBut.trans (by repeat (first | (with_reducible first | exact HK.out | apply KeepBut.set_ | apply keep_drewN | apply keep_drew | apply keep_alloc) | exact HK.out)) (KeepBut.of_below hb g none) (.inl rfl)); replace HB := Aside0.mk (below_step (bs1_ HB (IsS111.ge HI0.out)) hb); replace HI0 := Aside0.mk (IsS111.below (by repeat (first | (with_reducible first | exact HI0.out | apply IsS111.alloc | apply IsS111.drewN | apply IsS111.drew | apply IsS111.set_1 | apply IsS111.set_2) | exact HI0.out)) hb); clear hb ho28; obtain ⟨Ao29, co29, eo29⟩ := Kd.R_slice HO632.out; subst eo29) | ((with_reducible refine gk_ 98 ?_); refine gl_ 26 Try.func98 #[.pointer (some ⟨g, 0, none⟩), .slice Ao29 y630.length co29] ?_; (with_reducible refine (spec_l1Int.calls g s0_0 t628 t629 _ _ y630 t633 t634 t635 w0 _ ?side1 ?side2 ?side3 ?side4 ?side5 A24.out).mono ?_); (case side1 => repeat (first | (with_reducible first | exact HI0.out | apply IsS111.alloc | apply IsS111.drewN | apply IsS111.drew | apply IsS111.set_1 | apply IsS111.set_2) | exact HI0.out)); (case side2 => repeat (first | (with_reducible first | exact HB.out | apply below_alloc | apply pw_below_drewN | apply below_drew1 | refine below_set ?_ (IsS111.ge HI0.out)) | exact HB.out)); (case side3 => exact ch_ HO632); (case side4 => exact (cl_ HO632)); (case side5 => exact far_slice (IsS111.own_ne HI0.out HO632.out (by decide))); rintro e w30 ⟨rfl, hi, hb, hk⟩; refine ⟨_, rfl, ?_⟩; replace HO_3 := Aside0.mk (Kd.R_mono (Kd.R_keep (IsS111.apart (show IsS111 w0 _ g s0_0 t628 t629 from by repeat (first | (with_reducible first | exact HI0.out | apply IsS111.alloc | apply IsS111.drewN | apply IsS111.drew | apply IsS111.set_1 | apply IsS111.set_2) | exact HI0.out)) (kr_ HO_3.out) (by decide)) hk (fun _ h => h.2)) (fun _ h => h.1)); replace HO632 := Aside0.mk (Kd.R_mono (Kd.R_keep (IsS111.apart (show IsS111 w0 _ g s0_0 t628 t629 from by repeat (first | (with_reducible first | exact HI0.out | apply IsS111.alloc | apply IsS111.drewN | apply IsS111.drew | apply IsS111.set_1 | apply IsS111.set_2) | exact HI0.out)) (kr_ HO632.out) (by decide)) hk (fun _ h => h.2)) (fun _ h => h.1)); replace HK := Aside0.mk (KeepBut.trans (by repeat (first | (with_reducible first | exact HK.out | apply KeepBut.set_ | apply keep_drewN | apply keep_drew | apply keep_alloc) | exact HK.out)) hk (.inl rfl)); replace HB := Aside0.mk hb; replace HI0 := Aside0.mk hi; clear hb hk hi) | ((with_reducible refine gate_builtin (b := .append) (xs := #[.tmp 23, .tmp 28]) rfl ?_); at_builtin; refine Kd.R_append k28 w.heap.size rfl (.tmp 23) (.tmp 28) 35 28 (.agg #[(.int .i64 0), (.string ⟨#[]⟩)]) 24 rfl Try.underlying35 info28 rfl (by decide) (by omega) u3 x3_4 (⟨t633, (⟨#[120]⟩ : ByteArray)⟩ : S28) [.int .i64 t633, .string (⟨#[120]⟩ : ByteArray)] (fun _ => True) (fun _ => False) rfl rfl ?aP (fun _ hk => hk.elim) ?aF ?aO (Below.refl _ _) ?aS ?aL ?_; (case aP => exact k28_mkM _ _ _ (⟨t633, (⟨#[120]⟩ : ByteArray)⟩ : S28)); (case aF => exact (fun _ _ => trivial)); (case aO => exact (kr_ HO_3.out)); (case aS => exact (keep_size (w := w) (g := g) (row := none) (by repeat (first | (with_reducible first | exact HK.out | apply KeepBut.set_ | apply keep_drewN | apply keep_drew | apply keep_alloc) | exact HK.out)))); (case aL => have := LMc25.out; omega); intro v637 w31 ho hb hg hat; rw [← Ny636.out] at ho; replace HO632 := Aside0.mk (Kd.R_over' (kr_ HO632.out) (Kd.R_typed (kr_ HO_3.out)) (by decide) hg); replace HB := Aside0.mk (below_weaken (bs1_ HB (IsS111.ge HI0.out)) HL.out hb); replace HI0 := Aside0.mk (IsS111.grown (by repeat (first | (with_reducible first | exact HI0.out | apply IsS111.alloc | apply IsS111.drewN | apply IsS111.drew | apply IsS111.set_1 | apply IsS111.set_2) | exact HI0.out)) hg (IsS111.own_ne HI0.out HO_3.out (by decide))); replace HK := Aside0.mk (KeepBut.trans (by repeat (first | (with_reducible first | exact HK.out | apply KeepBut.set_ | apply keep_drewN | apply keep_drew | apply keep_alloc) | exact HK.out)) (KeepBut.of_grown hg g) (Kd.R_base2 HO_3.out)); have HO638 := Aside0.mk ho; clear HO_3; clear ho hb hg hat))
    go_ret
    exact ⟨_, e2_, kr_ HO638.out, by repeat (first | (with_reducible first | exact HI0.out | apply IsS111.alloc | apply IsS111.drewN | apply IsS111.drew | apply IsS111.set_1 | apply IsS111.set_2) | exact HI0.out), by repeat (first | (with_reducible first | exact HB.out | apply below_alloc | apply pw_below_drewN | apply below_drew1 | refine below_set ?_ (IsS111.ge HI0.out)) | exact HB.out), by repeat (first | (with_reducible first | exact HK.out | apply KeepBut.set_ | apply keep_drewN | apply keep_drew | apply keep_alloc) | exact HK.out)⟩
   ·replace H := so3_ H; obtain ⟨rfl, rfl, rfl⟩ := H
    go_wp2_with (first | ((with_reducible refine gk_ 75 ?_); refine gl_ 22 Try.func75 #[.pointer (some ⟨g, 0, none⟩), .int .i64 6] ?_; (with_reducible refine (spec_l1Once.calls g s0_0 x1001_4 x1002_4 6 false t628 t629 w0 _ ?side1 ?side2 A22.out).mono ?_); (case side1 => repeat (first | (with_reducible first | exact HI0.out | apply IsS111.alloc | apply IsS111.drewN | apply IsS111.drew | apply IsS111.set_1 | apply IsS111.set_2) | exact HI0.out)); (case side2 => repeat (first | (with_reducible first | exact HB.out | apply below_alloc | apply pw_below_drewN | apply below_drew1 | refine below_set ?_ (IsS111.ge HI0.out)) | exact HB.out)); rintro e w32 ⟨rfl, hi, hb, hk⟩; refine ⟨_, rfl, ?_⟩; replace HO_3 := Aside0.mk (Kd.R_mono (Kd.R_keep (IsS111.apart (show IsS111 w0 _ g s0_0 x1001_4 x1002_4 from by repeat (first | (with_reducible first | exact HI0.out | apply IsS111.alloc | apply IsS111.drewN | apply IsS111.drew | apply IsS111.set_1 | apply IsS111.set_2) | exact HI0.out)) (kr_ HO_3.out) (by decide)) hk (fun _ h => h.2)) (fun _ h => h.1)); replace HK := Aside0.mk (KeepBut.trans (by repeat (first | (with_reducible first | exact HK.out | apply KeepBut.set_ | apply keep_drewN | apply keep_drew | apply keep_alloc) | exact HK.out)) hk (.inl rfl)); replace HB := Aside0.mk hb; replace HI0 := Aside0.mk hi; clear hb hk hi))
    go_ret
    exact ⟨_, e2_, kr_ HO_3.out, by repeat (first | (with_reducible first | exact HI0.out | apply IsS111.alloc | apply IsS111.drewN | apply IsS111.drew | apply IsS111.set_1 | apply IsS111.set_2) | exact HI0.out), by repeat (first | (with_reducible first | exact HB.out | apply below_alloc | apply pw_below_drewN | apply below_drew1 | refine below_set ?_ (IsS111.ge HI0.out)) | exact HB.out), by repeat (first | (with_reducible first | exact HK.out | apply KeepBut.set_ | apply keep_drewN | apply keep_drew | apply keep_alloc) | exact HK.out)⟩
end Go.Proofs.Ytjnnglphdaemaaa.Q
end

section
/- Any drawn table of heads. Plain. -/
namespace Go.Proofs.Ytjnnglphdaemaaa.Q
open Go.RowKit Go.Proofs.Ytjnnglphdaemaaa.B Go.Proofs.YtjnnglphdaemaaaW.PrintWords
set_option linter.unusedVariables false
set_option linter.unusedSimpArgs false
theorem l10Any_j0 {s : List Int} (A : List IHead) {i : Int} (h : Int) (hd : Drawer s i) (hA : A ≠ []) (hA2 : A.length ≤ 900) : ∃ T i' h', Ev (fun k => spec_l10Any.j0 k A s i h) (T, i', h') ∧ Drawer s i' ∧ T ≠ [] ∧ T.length ≤ 1000 := by
 obtain ⟨b, i1, h1, e1, d1⟩ := l1Once_ok h 6 hd (by decide) (by decide)
 obtain ⟨x, i2, h2, e2, _, d2⟩ := l1Int_ok h1 ([(-1), 2, 201] : List Int) d1 (by decide) (by decide)
 by_cases hb : b = true
 ·refine ⟨A ++ [⟨x, ⟨#[120]⟩⟩], i2, h2, ?_, d2, by simp, by simp; omega⟩
  refine Ev.step (fun k => by simp only [spec_l10Any.j0]; rw [e1]) ?_
  simp only [Option.bind_some]
  refine Ev.pos hb ?_
  rw [e2]
  simp only [Option.bind_some]
  exact Ev.pos (by omega) (Ev.now _)
 ·refine ⟨A, i1, h1, ?_, d1, hA, by omega⟩
  refine Ev.step (fun k => by simp only [spec_l10Any.j0]; rw [e1]) ?_
  simp only [Option.bind_some]
  exact Ev.neg hb (Ev.now _)
theorem l10Any_ev {s : List Int} {i : Int} (h : Int) (hd : Drawer s i) : ∃ T i' h', Ev (fun k => spec_l10Any.f k s i h) (T, i', h') ∧ Drawer s i' ∧ T ≠ [] ∧ T.length ≤ 1000 := by
 obtain ⟨l, i1, h1, e1, d1, hl1, hx1⟩ := l6List_ev h hd
 obtain ⟨T, i2, h2, e2, d2, hT, hx2⟩ := l10Table_ev h1 d1 l (by omega) (fun x hx => by have := hx1 x hx; unfold bigB; omega)
 obtain ⟨b, i3, h3, e3, d3⟩ := l1Once_ok h2 3 d2 (by decide) (by decide)
 have hlen : (T ++ [lastHead l]).length ≤ 20 := by simp; omega
 unfold spec_l10Any.f
 by_cases hb : b = true
 ·obtain ⟨x, i4, h4, e4, x0, x1, d4⟩ := l1Below_ok h3 4 d3 (by decide) (by decide)
  obtain ⟨y, i5, h5, e5, y0, y1, d5⟩ := l1Below_ok h4 3 d4 (by decide) (by decide)
  obtain ⟨R, i6, h6, e6, d6, r1, r2⟩ := l10Any_j0 ((T ++ [lastHead l]) ++ [⟨x, sha [y % 256]⟩]) h5 d5 (by simp) (by simp; omega)
  refine ⟨R, i6, h6, ?_, d6, r1, r2⟩
  refine Ev.bind e1 (Ev.bind e2 ?_)
  simp only
  rw [e3]
  simp only [Option.bind_some]
  refine Ev.pos hb ?_
  rw [e4]
  simp only [Option.bind_some]
  rw [e5]
  simp only [Option.bind_some]
  refine Ev.bind (spec_Digest_ev [y % 256] (by simp) (fun z hz => by rw [List.mem_singleton.1 hz]; omega)) ?_
  exact Ev.pos (by omega) e6
 ·obtain ⟨R, i6, h6, e6, d6, r1, r2⟩ := l10Any_j0 (T ++ [lastHead l]) h3 d3 (by simp) (by omega)
  refine ⟨R, i6, h6, ?_, d6, r1, r2⟩
  refine Ev.bind e1 (Ev.bind e2 ?_)
  simp only
  rw [e3]
  simp only [Option.bind_some]
  exact Ev.neg hb e6
end Go.Proofs.Ytjnnglphdaemaaa.Q
end

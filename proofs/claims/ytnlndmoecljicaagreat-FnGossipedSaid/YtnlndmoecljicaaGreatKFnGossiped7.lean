/- What a drawn mirror says of itself is its best head, and right; what it asks for is from where it is, if there is more; no condition. -/
-- Joined and shortened by a program of this session (wip/tools/shakecopy.py): the words of the print, texts of pp.sh and of mine.
import Derived.Test.YtnlndmoecljicaaGreatKFnGossiped6
set_option linter.unusedVariables false
set_option linter.unusedSimpArgs false
section
namespace Go.Proofs.YtnlndmoecljicaaGreat.Q
open Go.Proofs.YtnlndmoecljicaaGreat.B Go.Proofs.YtnlndmoecljicaaGreatW.PrintMore Go.Proofs.YtnlndmoecljicaaGreatW.PrintWords Go.RowKit
set_option maxHeartbeats 8000000
set_option maxRecDepth 100000
theorem l10Any_j0 {s : List Int} (A : List IHead) {i : Int} (h : Int) (hd : Drawer s i) (hA : A ≠ []) (hA2 : A.length ≤ 900) : ∃ T i' h', Ev (fun k => spec_l10Any.j0 k A s i h) (T, i', h') ∧ Drawer s i' ∧ T ≠ [] ∧ T.length ≤ 1000 := by
 obtain ⟨b, i1, h1, e1, d1⟩ := l1Once_ok h 6 hd (by decide) (by decide)
 obtain ⟨x, i2, h2, e2, _, d2⟩ := l1Int_ok h1 ([(-1), 2, 201] : List Int) d1 (by decide) (by decide)
 by_cases hb : b = true
 ·refine ⟨A ++ [⟨x, ⟨#[120]⟩⟩], i2, h2, ?_, d2, by simp, by simp; omega⟩
  refine Ev.step (fun k => by simp only [spec_l10Any.j0]; rw [e1]) ?_
  simp only [Option.bind_some]
  refine Ev.pos hb ?_
  rw [e2]
  simp only [Option.bind_some]
  exact Ev.pos (by omega) (Ev.now _)
 ·refine ⟨A, i1, h1, ?_, d1, hA, by omega⟩
  refine Ev.step (fun k => by simp only [spec_l10Any.j0]; rw [e1]) ?_
  simp only [Option.bind_some]
  exact Ev.neg hb (Ev.now _)
theorem l10Any_ev {s : List Int} {i : Int} (h : Int) (hd : Drawer s i) : ∃ T i' h', Ev (fun k => spec_l10Any.f k s i h) (T, i', h') ∧ Drawer s i' ∧ T ≠ [] ∧ T.length ≤ 1000 := by
 obtain ⟨l, i1, h1, e1, d1, hl1, hx1⟩ := l6List_ev h hd
 obtain ⟨T, i2, h2, e2, d2, hT, hx2⟩ := l10Table_ev h1 d1 l (by omega) (fun x hx => by have := hx1 x hx; unfold bigB; omega)
 obtain ⟨b, i3, h3, e3, d3⟩ := l1Once_ok h2 3 d2 (by decide) (by decide)
 have hlen : (T ++ [lastHead l]).length ≤ 20 := by simp; omega
 unfold spec_l10Any.f
 by_cases hb : b = true
 ·obtain ⟨x, i4, h4, e4, x0, x1, d4⟩ := l1Below_ok h3 4 d3 (by decide) (by decide)
  obtain ⟨y, i5, h5, e5, y0, y1, d5⟩ := l1Below_ok h4 3 d4 (by decide) (by decide)
  obtain ⟨R, i6, h6, e6, d6, r1, r2⟩ := l10Any_j0 ((T ++ [lastHead l]) ++ [⟨x, sha [y % 256]⟩]) h5 d5 (by simp) (by simp; omega)
  refine ⟨R, i6, h6, ?_, d6, r1, r2⟩
  refine Ev.bind e1 (Ev.bind e2 ?_)
  simp only
  rw [e3]
  simp only [Option.bind_some]
  refine Ev.pos hb ?_
  rw [e4]
  simp only [Option.bind_some]
  rw [e5]
  simp only [Option.bind_some]
  refine Ev.bind (spec_Digest_ev [y % 256] (by simp) (fun z hz => by rw [List.mem_singleton.1 hz]; omega)) ?_
  exact Ev.pos (by omega) e6
 ·obtain ⟨R, i6, h6, e6, d6, r1, r2⟩ := l10Any_j0 (T ++ [lastHead l]) h3 d3 (by simp) (by omega)
  refine ⟨R, i6, h6, ?_, d6, r1, r2⟩
  refine Ev.bind e1 (Ev.bind e2 ?_)
  simp only
  rw [e3]
  simp only [Option.bind_some]
  exact Ev.neg hb e6
theorem l11Any_ev {s : List Int} {i : Int} (h : Int) (hd : Drawer s i) : ∃ l n r i' h', Ev (fun k => spec_l11Any.f k s i h) (l, n, r, i', h') ∧ Drawer s i' ∧ l.length ≤ 9 ∧ ∀ x ∈ l, x.size ≤ bigB := by
 obtain ⟨l, i1, h1, e1, d1, hl, hx⟩ := l6List_ev h hd
 have hb : ∀ x ∈ l, x.size ≤ bigB := fun x hm => by
  have := hx x hm
  unfold bigB
  omega
 have e2 : Ev (fun k => spec_l11Log.f k l) (l, (headOf l).1, (headOf l).2) := by
  unfold spec_l11Log.f
  exact Ev.bind (spec_HeadOf_ev l hb) (Ev.now _)
 obtain ⟨c, i2, h2, e3, _, _, d2⟩ := l1Below_ok h1 10 d1 (by decide) (by decide)
 have main : ∀ r, Ev (fun _ : Nat => if c = 0 then (if l.length < 8796093022208 then (some ((l ++ [(⟨#[120]⟩ : ByteArray)]), (headOf l).1, (headOf l).2, i2, h2)) else (none)) else (if c = 1 then (some (l, wrap64 ((headOf l).1 + 1), (headOf l).2, i2, h2)) else (some (l, (headOf l).1, (headOf l).2, i2, h2)))) r → Ev (fun k => spec_l11Any.f k s i h) r := fun r hr => by
  unfold spec_l11Any.f
  exact Ev.bind e1 (Ev.bind e2 (Ev.bind (Ev.const e3) hr))
 by_cases h0 : c = 0
 ·refine ⟨_, _, _, _, _, main _ (Ev.pos h0 (Ev.pos (by omega) (Ev.now _))), d2, by simp; omega, fun x hm => ?_⟩
  rcases List.mem_append.1 hm with hm | hm
  ·exact hb x hm
  ·rw [List.mem_singleton.1 hm]
   decide
 ·by_cases h1 : c = 1
  ·exact ⟨_, _, _, _, _, main _ (Ev.neg h0 (Ev.pos h1 (Ev.now _))), d2, by omega, hb⟩
  ·exact ⟨_, _, _, _, _, main _ (Ev.neg h0 (Ev.neg h1 (Ev.now _))), d2, by omega, hb⟩
def SmallS (l : List ByteArray) (b : List Int) : Prop := l.length ≤ 20 ∧ (∀ x ∈ l, x.size ≤ bigB) ∧ InB b ∧ b.length ≤ 4000
theorem stored_small {t : List IHead} {all l : List ByteArray} {b : List Int} {u : Int} (h : Stored t all l b u 3) (ha : all.length ≤ 9) (hx : ∀ x ∈ all, x.size ≤ 3) : SmallS l b := by
 obtain ⟨n, hn⟩ := h.begins
 have := h.small
 refine ⟨?_, fun x hm => ?_, h.bytes, by omega⟩
 ·rw [hn, List.length_take]
  omega
 ·rw [hn] at hm
  have := hx x (List.mem_of_mem_take hm)
  unfold bigB
  omega
abbrev StoreT := List ByteArray × Int × ByteArray × List Int × Int × Int × Int
theorem l12Any_ev {s : List Int} {i : Int} (h : Int) (hd : Drawer s i) : ∃ r : StoreT, Ev (fun k => spec_l12Any.f k s i h) r ∧ SmallS r.1 r.2.2.2.1 ∧ Drawer s r.2.2.2.2.2.1 := by
 obtain ⟨l, b, u, all, t, i1, h1, e1, hS, d1, ha, _, hx, _⟩ := l12Draw_ev h hd
 have hs := stored_small hS ha hx
 generalize (headOf l).1 = n at e1
 generalize (headOf l).2 = z at e1
 obtain ⟨c, i2, h2, e2, c0, c1, d2⟩ := l1Below_ok h1 12 d1 (by decide) (by decide)
 unfold spec_l12Any.f
 refine exb e1 (exb (Ev.const e2) ?_)
 simp only
 by_cases k0 : c = 0
 ·obtain ⟨y, i3, h3, e3, _, d3⟩ := l1Int_ok h2 ([(-1), (b.length : Int), wrap64 ((b.length : Int) + 1)] : List Int) d2 (by simp) (by simp)
  exact exp_ k0 (exb (Ev.const e3) ⟨_, Ev.now _, hs, d3⟩)
 refine exn_ k0 ?_
 by_cases k1 : c = 1
 ·obtain ⟨s1, s2, s3, s4⟩ := hs
  refine exp_ k1 (exp_ (by omega) ⟨_, Ev.now _, ⟨s1, s2, inB_app s3 (fun x hm => ?_), ?_⟩, d2⟩)
  ·rw [List.mem_singleton.1 hm]
   decide
  ·obtain ⟨_, _, _, s4⟩ := stored_small hS ha hx
   have := hS.small
   simp only [List.length_append, List.length_singleton]
   omega
 refine exn_ k1 ?_
 by_cases k2 : c = 2
 ·obtain ⟨L, N, R, i3, h3, e3, d3, hL, hLs⟩ := l11Any_ev h2 d2
  exact exp_ k2 (exb e3 ⟨_, Ev.now _, ⟨by simp only; omega, hLs, hs.2.2.1, hs.2.2.2⟩, d3⟩)
 ·exact exn_ k2 ⟨_, Ev.now _, hs, d2⟩
abbrev MirrorT := Int × List ByteArray × Int × ByteArray × List Int × Int × Int × ByteArray × List IHead × List ByteArray × Int × Int
def SmallM (s : List Int) (r : MirrorT) : Prop := SmallS r.2.1 r.2.2.2.2.1 ∧ r.2.2.2.2.2.2.2.2.1.length ≤ 1000 ∧ Drawer s r.2.2.2.2.2.2.2.2.2.2.1
theorem l14Draw_ev {s : List Int} {i : Int} (h : Int) (hd : Drawer s i) : ∃ r, Ev (fun k => spec_l14Draw.f k s i h) r ∧ SmallM s r := by
 obtain ⟨l, b, u, all, t, i1, h1, e1, hS, d1, ha, _, hx, ht⟩ := l12Draw_ev h hd
 have hs := stored_small hS ha hx
 generalize (headOf l).1 = n at e1
 generalize (headOf l).2 = z at e1
 obtain ⟨c, i2, h2, e2, c0, c1, d2⟩ := l1Below_ok h1 4 d1 (by decide) (by decide)
 obtain ⟨q, i3, h3, e3, d3⟩ := l1Once_ok h2 2 d2 (by decide) (by decide)
 unfold spec_l14Draw.f
 refine exb e1 (exb (Ev.const e2) (exb (Ev.const e3) ?_))
 simp only
 by_cases hq : q = true
 ·exact exp_ hq (exb (spec_BestHead_ev t (by omega)) ⟨_, Ev.now _, hs, ht, d3⟩)
 ·exact exn_ hq ⟨_, Ev.now _, hs, ht, d3⟩
theorem l14Any_ev {s : List Int} {i : Int} (h : Int) (hd : Drawer s i) : ∃ r, Ev (fun k => spec_l14Any.f k s i h) r ∧ SmallM s r := by
 obtain ⟨⟨a1, a2, a3, a4, a5, a6, a7, a8, a9, a10, j, g⟩, e1, s1, s2, d1⟩ := l14Draw_ev h hd
 simp only at s1 s2 d1
 obtain ⟨c, i2, h2, e2, c0, c1, d2⟩ := l1Below_ok g 12 d1 (by decide) (by decide)
 unfold spec_l14Any.f
 refine exb e1 (exb (Ev.const e2) ?_)
 simp only
 by_cases k0 : c = 0
 ·obtain ⟨y, i3, h3, e3, _, d3⟩ := l1Int_ok h2 ([(-1), 21, 20] : List Int) d2 (by simp) (by simp)
  exact exp_ k0 (exb (Ev.const e3) ⟨_, Ev.now _, s1, s2, d3⟩)
 refine exn_ k0 ?_
 by_cases k1 : c = 1
 ·obtain ⟨T, i3, h3, e3, d3, hT, _⟩ := l10Any_ev h2 d2
  have hT2 : 0 < T.length := List.length_pos_iff.mpr hT
  exact exp_ k1 (exb e3 (exp_ (by simp only; omega) ⟨_, Ev.now _, s1, s2, d3⟩))
 refine exn_ k1 ?_
 by_cases k2 : c = 2
 ·obtain ⟨⟨b1, b2, b3, b4, b5, b6, b7⟩, e3, s3, d3⟩ := l12Any_ev h2 d2
  exact exp_ k2 (exb e3 ⟨_, Ev.now _, s3, s2, d3⟩)
 ·exact exn_ k2 ⟨_, Ev.now _, s1, s2, d2⟩
def isKnown (t : List IHead) (a : Int) (s : ByteArray) : Bool := (a == (headOf []).1 && (s.toList == (headOf []).2.toList)) || hasHead t a s
theorem spec_Known_ev (t : List IHead) (a : Int) (s : ByteArray) (ht : t.length ≤ 9223372036854775807) : Ev (fun k => spec_l14Known.f k t a s) (isKnown t a s) := by
 unfold spec_l14Known.f isKnown
 refine Ev.bind (spec_HeadOf_ev [] (by simp)) ?_
 by_cases h : (a == (headOf []).1 && (s.toList == (headOf []).2.toList)) = true
 ·exact Ev.pos h (Ev.one (Ev.now _) (by rw [h]; rfl))
 ·exact Ev.neg h (Ev.bind (spec_IsSigned_ev t a s ht) (Ev.one (Ev.now _) (by rw [Bool.eq_false_iff.mpr h]; rfl)))
theorem impl_known_ev (t : List IHead) (a : Int) (s : ByteArray) (ht : t.length ≤ 9223372036854775807) : Ev (fun k => impl_isKnown.f k t a s) (isKnown t a s) := by
 unfold impl_isKnown.f isKnown
 refine Ev.bind (impl_HeadOf_ev [] (by simp)) ?_
 by_cases h : (a == (headOf []).1 && (s.toList == (headOf []).2.toList)) = true
 ·exact Ev.pos h (Ev.one (Ev.now _) (by rw [h]; rfl))
 ·exact Ev.neg h (Ev.bind (impl_IsSigned_ev t a s ht) (Ev.one (Ev.now _) (by rw [Bool.eq_false_iff.mpr h]; rfl)))
theorem isId_eq (i : Int) : impl_isId.f i = some (decide (0 ≤ i ∧ i ≤ 20)) := by
 unfold impl_isId.f
 rw [impl_in_eq]
 rfl
theorem mirrorOk_told (i : Int) (l : List ByteArray) (n : Int) (s : ByteArray) (b : List Int) (u c : Int) (z : ByteArray) (t : List IHead) (hb : InB b) (hl : b.length ≤ 1048576) (hs : ∀ x ∈ l, x.size ≤ bigB) (ht : t.length ≤ 9223372036854775807) :
  ∃ r, Ev (fun k => spec_MirrorOk.f k i l n s b u c z t) r ∧ Ev (fun k => impl_MirrorOk.f k i l n s b u c z t) r ∧ (r = true → (0 ≤ i ∧ i ≤ 20) ∧ headOk c z = true ∧ isKnown t c z = true ∧ isKnown t n s = true ∧ Ev (fun k => impl_StoreOk.f k l n s b u) true) ∧ ((0 ≤ i ∧ i ≤ 20) → headOk c z = true → isKnown t c z = true → isKnown t n s = true → Ev (fun k => impl_StoreOk.f k l n s b u) true → r = true) := by
 obtain ⟨q, q1, q2⟩ := storeOk_both l n s b u hb hl hs
 have k1 := spec_Known_ev t c z ht
 have k2 := impl_known_ev t c z ht
 have k3 := spec_Known_ev t n s ht
 have k4 := impl_known_ev t n s ht
 refine ⟨decide (0 ≤ i ∧ i ≤ 20) && (headOk c z && (isKnown t c z && (isKnown t n s && q))), ?_, ?_, fun hr => ?_, fun g1 g2 g3 g4 g5 => ?_⟩
 ·unfold spec_MirrorOk.f
  refine Ev.bind (Ev.const (spec_in_eq _ _ _)) ?_
  by_cases h : decide (0 ≤ i ∧ i ≤ 20) = true
  ·rw [h]
   refine Ev.pos rfl (Ev.bind q1 ?_)
   cases q with
   | false => exact Ev.neg (by simp) (Ev.one (Ev.now _) (by simp))
   | true =>
    refine Ev.pos rfl (Ev.bind (Ev.const (spec_HeadOk_eq c z)) ?_)
    by_cases h2 : headOk c z = true
    ·rw [h2]
     refine Ev.pos rfl (Ev.bind k1 ?_)
     by_cases h3 : isKnown t c z = true
     ·rw [h3]
      exact Ev.pos rfl (Ev.bind k3 (Ev.one (Ev.now _) (by simp)))
     ·rw [Bool.eq_false_iff.mpr h3]
      exact Ev.neg (by simp) (Ev.one (Ev.now _) (by simp))
    ·rw [Bool.eq_false_iff.mpr h2]
     exact Ev.neg (by simp) (Ev.one (Ev.now _) (by simp))
  ·rw [Bool.eq_false_iff.mpr h]
   exact Ev.neg (by simp) (Ev.one (Ev.now _) (by simp))
 ·unfold impl_MirrorOk.f
  refine Ev.bind (Ev.const (isId_eq _)) ?_
  by_cases h : decide (0 ≤ i ∧ i ≤ 20) = true
  ·rw [h]
   refine Ev.pos rfl (Ev.bind (Ev.const (impl_HeadOk_eq c z)) ?_)
   by_cases h2 : headOk c z = true
   ·rw [h2]
    refine Ev.pos rfl (Ev.bind k2 ?_)
    by_cases h3 : isKnown t c z = true
    ·rw [h3]
     refine Ev.pos rfl (Ev.bind k4 ?_)
     by_cases h4 : isKnown t n s = true
     ·rw [h4]
      exact Ev.pos rfl (Ev.bind q2 (Ev.one (Ev.now _) (by simp)))
     ·rw [Bool.eq_false_iff.mpr h4]
      exact Ev.neg (by simp) (Ev.one (Ev.now _) (by simp))
    ·rw [Bool.eq_false_iff.mpr h3]
     exact Ev.neg (by simp) (Ev.one (Ev.now _) (by simp))
   ·rw [Bool.eq_false_iff.mpr h2]
    exact Ev.neg (by simp) (Ev.one (Ev.now _) (by simp))
  ·rw [Bool.eq_false_iff.mpr h]
   exact Ev.neg (by simp) (Ev.one (Ev.now _) (by simp))
 ·simp only [Bool.and_eq_true, decide_eq_true_eq] at hr
  obtain ⟨e1, e2, e3, e4, e5⟩ := hr
  rw [e5] at q2
  exact ⟨e1, e2, e3, e4, q2⟩
 ·rw [ev_uniq q2 g5, decide_eq_true g1, g2, g3, g4]
  rfl
abbrev IMsg := S65
def otherOf (i to_ : Int) : Bool := decide (0 ≤ to_ ∧ to_ ≤ 20) && (to_ != i)
theorem isOther_eq (i : Int) (l : List ByteArray) (n : Int) (s : ByteArray) (b : List Int) (u c : Int) (z : ByteArray) (to_ : Int) : impl_Mirror_isOther.f i l n s b u c z to_ = some (otherOf i to_, i, n, s, u, c, z) := by
 unfold impl_Mirror_isOther.f otherOf
 rw [isId_eq]
 simp only [Option.bind_some]
 by_cases h : decide (0 ≤ to_ ∧ to_ ≤ 20) = true
 ·rw [if_pos h, h]
  rfl
 ·rw [if_neg h, Bool.eq_false_iff.mpr h]
  rfl
theorem spec_To_eq (i : Int) (l : List ByteArray) (n : Int) (s : ByteArray) (b : List Int) (u c : Int) (z : ByteArray) (to_ : Int) : spec_l14To.f i l n s b u c z to_ = some (otherOf i to_) := by
 unfold spec_l14To.f otherOf
 rw [spec_in_eq]
 simp only [Option.bind_some]
 by_cases h : decide (0 ≤ to_ ∧ to_ ≤ 20) = true
 ·rw [if_pos h, h]
  rfl
 ·rw [if_neg h, Bool.eq_false_iff.mpr h]
  rfl
def gossipOf (i c : Int) (z : ByteArray) (to_ : Int) : List IMsg := if otherOf i to_ = true then [(⟨1, i, to_, (⟨c, z⟩ : IHead), 0, ([] : List ByteArray)⟩ : IMsg)] else []
def askOf (i : Int) (l : List ByteArray) (c : Int) (z : ByteArray) (to_ : Int) : List IMsg := if otherOf i to_ = true then (if c ≤ (l.length : Int) then [] else [(⟨2, i, to_, (⟨c, z⟩ : IHead), (l.length : Int), ([] : List ByteArray)⟩ : IMsg)]) else []
theorem impl_gossip_eq (i : Int) (l : List ByteArray) (n : Int) (s : ByteArray) (b : List Int) (u c : Int) (z : ByteArray) (to_ : Int) : impl_Mirror_gossip.f i l n s b u c z to_ = some (gossipOf i c z to_, i, n, s, u, c, z) := by
 unfold impl_Mirror_gossip.f gossipOf
 rw [isOther_eq]
 simp only [Option.bind_some]
 by_cases h : otherOf i to_ = true
 ·rw [if_pos h, if_pos h]
 ·rw [if_neg h, if_neg h]
theorem impl_ask_eq (i : Int) (l : List ByteArray) (n : Int) (s : ByteArray) (b : List Int) (u c : Int) (z : ByteArray) (to_ : Int) : impl_Mirror_askFor.f i l n s b u c z to_ = some (askOf i l c z to_, i, n, s, u, c, z) := by
 unfold impl_Mirror_askFor.f askOf
 rw [isOther_eq]
 simp only [Option.bind_some]
 by_cases h : otherOf i to_ = true
 ·rw [if_pos h, if_pos h]
  by_cases h2 : c ≤ (l.length : Int)
  ·rw [if_pos h2, if_pos h2]
  ·rw [if_neg h2, if_neg h2]
 ·rw [if_neg h, if_neg h]
theorem spec_gossip_eq (i : Int) (l : List ByteArray) (n : Int) (s : ByteArray) (b : List Int) (u c : Int) (z : ByteArray) (to_ : Int) : spec_l14Gossip.f i l n s b u c z to_ = some (gossipOf i c z to_) := by
 unfold spec_l14Gossip.f gossipOf
 rw [spec_To_eq]
 simp only [Option.bind_some]
 by_cases h : otherOf i to_ = true
 ·rw [if_pos h, if_pos h]
 ·rw [if_neg h, if_neg h]
theorem spec_ask_eq (i : Int) (l : List ByteArray) (n : Int) (s : ByteArray) (b : List Int) (u c : Int) (z : ByteArray) (to_ : Int) : spec_l14Ask.f i l n s b u c z to_ = some (askOf i l c z to_) := by
 unfold spec_l14Ask.f askOf
 rw [spec_To_eq]
 simp only [Option.bind_some]
 by_cases h : otherOf i to_ = true
 ·rw [if_pos h, if_pos h]
  by_cases h2 : c ≤ (l.length : Int)
  ·rw [if_pos h2, if_pos h2]
  ·rw [if_neg h2, if_neg h2]
 ·rw [if_neg h, if_neg h]
theorem said_both (i : Int) (l : List ByteArray) (n : Int) (s : ByteArray) (b : List Int) (u c : Int) (z : ByteArray) (t : List IHead) (hb : InB b) (hl : b.length ≤ 1048576) (hs : ∀ x ∈ l, x.size ≤ bigB) (ht : t.length ≤ 9223372036854775807) :
  ∃ r : Bool, (r = true → (0 ≤ i ∧ i ≤ 20) ∧ headOk c z = true) ∧ ∀ to_, Ev (fun k => spec_Gossip.f k i l n s b u c z t to_) (if r = true then gossipOf i c z to_ else []) ∧ Ev (fun k => impl_Gossip.f k i l n s b u c z t to_) (if r = true then gossipOf i c z to_ else []) ∧
   Ev (fun k => spec_AskFor.f k i l n s b u c z t to_) (if r = true then askOf i l c z to_ else []) ∧ Ev (fun k => impl_AskFor.f k i l n s b u c z t to_) (if r = true then askOf i l c z to_ else []) := by
 obtain ⟨r, h1, h2, h3, _⟩ := mirrorOk_told i l n s b u c z t hb hl hs ht
 refine ⟨r, fun h => ⟨(h3 h).1, (h3 h).2.1⟩, fun to_ => ?_⟩
 unfold spec_Gossip.f impl_Gossip.f spec_AskFor.f impl_AskFor.f
 cases r with
 | true => exact ⟨Ev.bind h1 (Ev.pos rfl (Ev.bind (Ev.const (spec_gossip_eq ..)) (Ev.now _))), Ev.bind h2 (Ev.pos rfl (Ev.bind (Ev.const (impl_gossip_eq ..)) (Ev.now _))), Ev.bind h1 (Ev.pos rfl (Ev.bind (Ev.const (spec_ask_eq ..)) (Ev.now _))), Ev.bind h2 (Ev.pos rfl (Ev.bind (Ev.const (impl_ask_eq ..)) (Ev.now _)))⟩
 | false => exact ⟨Ev.bind h1 (Ev.neg (by simp) (Ev.now _)), Ev.bind h2 (Ev.neg (by simp) (Ev.now _)), Ev.bind h1 (Ev.neg (by simp) (Ev.now _)), Ev.bind h2 (Ev.neg (by simp) (Ev.now _))⟩
def msgKind (k d n : Int) (l : List ByteArray) : Bool := if k = 1 then (if n = 0 then ((l.length : Int) == 0) else false) else (if k = 2 then (if n < d then ((l.length : Int) == 0) else false) else (if k = 3 then (if n < d then ((l.length : Int) == (wrap64 (d - n))) else false) else false))
def msgOk (k f t d : Int) (s : ByteArray) (n : Int) (l : List ByteArray) : Bool := if (0 ≤ f ∧ f ≤ 20) ∧ (0 ≤ t ∧ t ≤ 20) ∧ ¬ f = t ∧ headOk d s = true ∧ (0 ≤ n ∧ n ≤ 200) then msgKind k d n l else false
theorem impl_j_ev (x : Bool) (k f t d : Int) (s : ByteArray) (n : Int) (l : List ByteArray) : Ev (fun q => impl_MsgOk.j0 q x k f t d s n l) (if x = true then false else msgKind k d n l) := by
 refine Ev.step (f := fun _ => some (if x = true then false else msgKind k d n l)) (fun q => ?_) (Ev.now _)
 simp only [impl_MsgOk.j0]
 unfold msgKind
 repeat' split
 all_goals first | rfl | simp_all
theorem impl_MsgOk_ev (k f t d : Int) (s : ByteArray) (n : Int) (l : List ByteArray) : Ev (fun q => impl_MsgOk.f q k f t d s n l) (msgOk k f t d s n l) := by
 unfold impl_MsgOk.f msgOk
 have J := fun x => impl_j_ev x k f t d s n l
 have Jt := J true
 rw [if_pos rfl] at Jt
 by_cases h1 : 0 ≤ f ∧ f ≤ 20
 ·refine Ev.bind (Ev.const (isId_eq _)) (Ev.pos (decide_eq_true h1) ?_)
  by_cases h2 : 0 ≤ t ∧ t ≤ 20
  ·refine Ev.bind (Ev.const (isId_eq _)) (Ev.pos (decide_eq_true h2) ?_)
   by_cases h3 : f = t
   ·rw [if_neg (fun q => q.2.2.1 h3)]
    exact Ev.pos h3 Jt
   ·refine Ev.neg h3 (Ev.bind (Ev.const (impl_HeadOk_eq _ _)) ?_)
    by_cases h4 : headOk d s = true
    ·refine Ev.pos h4 (Ev.bind (Ev.const (impl_in_eq _ _ _)) ?_)
     by_cases h5 : 0 ≤ n ∧ n ≤ 200
     ·rw [if_pos ⟨h1, h2, h3, h4, h5⟩, decide_eq_true h5]
      have j := J false
      rw [if_neg (by simp)] at j
      exact j
     ·rw [if_neg (fun q => h5 q.2.2.2.2), decide_eq_false h5]
      exact Jt
    ·rw [if_neg (fun q => h4 q.2.2.2.1)]
     exact Ev.neg h4 Jt
  ·rw [if_neg (fun q => h2 q.2.1)]
   exact Ev.bind (Ev.const (isId_eq _)) (Ev.neg (by rw [decide_eq_false h2]; simp) Jt)
 ·rw [if_neg (fun q => h1 q.1)]
  exact Ev.bind (Ev.const (isId_eq _)) (Ev.neg (by rw [decide_eq_false h1]; simp) Jt)
end Go.Proofs.YtnlndmoecljicaaGreat.Q
end
section
namespace Go.Proofs.YtnlndmoecljicaaGreat.Q
open Go.RowKit Go.Proofs.YtnlndmoecljicaaGreat.B Go.Proofs.YtnlndmoecljicaaGreatW.PrintWords
abbrev GossipT := Int × List ByteArray × Int × ByteArray × List Int × Int × Int × ByteArray × List IHead × Int
theorem drawGossip_ev (c : List Int) (hc : c.length ≤ 1048576) : ∃ r : GossipT, Ev (fun k => spec_DrawGossip.f k c) r ∧ SmallS r.2.1 r.2.2.2.2.1 ∧ r.2.2.2.2.2.2.2.2.1.length ≤ 1000 := by
 obtain ⟨h, hN⟩ := l1New_ev c hc
 obtain ⟨⟨a1, a2, a3, a4, a5, a6, a7, a8, a9, a10, j, g⟩, e1, s1, s2, d1⟩ := l14Any_ev h (Drawer.new hc)
 simp only at s1 s2 d1
 obtain ⟨y, i3, h3, e3, _, d3⟩ := l1Int_ok g ([a1, 4, 5, 20, 21, (-1)] : List Int) d1 (by simp) (by simp)
 unfold spec_DrawGossip.f
 exact exb hN (exb e1 (exb (Ev.const e3) ⟨_, Ev.now _, s1, s2⟩))
theorem other_parts {i to_ : Int} (h : otherOf i to_ = true) : (0 ≤ to_ ∧ to_ ≤ 20) ∧ ¬ i = to_ := by
 unfold otherOf at h
 rw [Bool.and_eq_true, decide_eq_true_eq, bne_iff_ne] at h
 exact ⟨h.1, fun e => h.2 e.symm⟩
theorem said_ok {i c : Int} {z : ByteArray} {to_ : Int} (hi : 0 ≤ i ∧ i ≤ 20) (hc : headOk c z = true) (h : otherOf i to_ = true) : msgOk 1 i to_ c z 0 [] = true := by
 obtain ⟨h1, h2⟩ := other_parts h
 unfold msgOk msgKind
 rw [if_pos ⟨hi, h1, h2, hc, by omega, by omega⟩, if_pos rfl, if_pos rfl]
 rfl
theorem ask_ok {i c : Int} {z : ByteArray} {to_ : Int} {n : Nat} (hi : 0 ≤ i ∧ i ≤ 20) (hc : headOk c z = true) (h : otherOf i to_ = true) (hn : ¬ c ≤ (n : Int)) : msgOk 2 i to_ c z (n : Int) [] = true := by
 obtain ⟨h1, h2⟩ := other_parts h
 have := headOk_parts hc
 unfold msgOk msgKind
 rw [if_pos ⟨hi, h1, h2, hc, by omega, by omega⟩, if_neg (by omega), if_pos rfl, if_pos (by omega)]
 rfl
theorem pure_FnGossiped : laws_FnGossiped.Pure := by
 intro l0 g0
 refine Ev.rounds (g := fun k => laws_FnGossiped.f k l0) ?_
 unfold laws_FnGossiped.f laws_big.f
 by_cases hbig : (l0.length : Int) > 1048576
 ·exact Ev.pos (decide_eq_true hbig) (Ev.now _)
 ·refine Ev.neg (by rw [decide_eq_true_eq]; exact hbig) ?_
  obtain ⟨⟨i, l, n, s, b, u, c, z, t, to_⟩, hD, ⟨s1, s2, s3, s4⟩, ht⟩ := drawGossip_ev l0 (by omega)
  simp only at s1 s2 s3 s4 ht
  obtain ⟨r, hr, hq⟩ := said_both i l n s b u c z t s3 (by omega) s2 (by omega)
  obtain ⟨q1, q2, q3, q4⟩ := hq to_
  have fin : ∀ (G A : List IMsg) (bad : Bool), (if r = true then gossipOf i c z to_ else []) = G → (if r = true then askOf i l c z to_ else []) = A → bad = decide ((A.length : Int) > (G.length : Int)) → G.length ≤ 1 → Ev (fun k => laws_FnGossiped.j0 k to_ G A bad i l n s b u c z) true → Ev (fun k => (impl_Gossip.f k i l n s b u c z t to_).bind fun G1 => (impl_AskFor.f k i l n s b u c z t to_).bind fun A1 => (spec_Gossip.f k i l n s b u c z t to_).bind fun G2 => if (G1.length : Int) = (G2.length : Int) then ((spec_AskFor.f k i l n s b u c z t to_).bind fun A2 => (if (A1.length : Int) = (A2.length : Int) then (if (G1.length : Int) > 1 then (laws_FnGossiped.j0 k to_ G1 A1 true i l n s b u c z) else (laws_FnGossiped.j0 k to_ G1 A1 (decide ((A1.length : Int) > (G1.length : Int))) i l n s b u c z)) else (laws_FnGossiped.j0 k to_ G1 A1 true i l n s b u c z))) else (laws_FnGossiped.j0 k to_ G1 A1 true i l n s b u c z)) true := fun G A bad hG hA hbad hG1 hJ => by
   rw [hG] at q1 q2
   rw [hA] at q3 q4
   rw [hbad] at hJ
   exact Ev.bind q2 (Ev.bind q4 (Ev.bind q1 (Ev.pos rfl (Ev.bind q3 (Ev.pos rfl (Ev.neg (by omega) hJ))))))
  refine Ev.bind hD ?_
  have none_ : Ev (fun k => laws_FnGossiped.j0 k to_ [] [] false i l n s b u c z) true := by
   refine Ev.step (fun k => by simp only [laws_FnGossiped.j0]; rfl) ?_
   exact Ev.neg (by simp) (Ev.neg (by simp) (Ev.pos (by simp) (Ev.now _)))
  by_cases h1 : r = true
  ·obtain ⟨hi, hc⟩ := hr h1
   by_cases h2 : otherOf i to_ = true
   ·generalize hg : (⟨1, i, to_, (⟨c, z⟩ : IHead), 0, ([] : List ByteArray)⟩ : IMsg) = G
    have rg : rd_T65 [G] 0 = G := rfl
    by_cases h3 : c ≤ (l.length : Int)
    ·refine fin [G] [] false (by rw [if_pos h1]; unfold gossipOf; rw [if_pos h2, hg]) (by rw [if_pos h1]; unfold askOf; rw [if_pos h2, if_pos h3]) (by simp) (by simp) ?_
     refine Ev.step (fun k => by simp only [laws_FnGossiped.j0, rg]; rfl) ?_
     subst hg
     have hM := impl_MsgOk_ev 1 i to_ c z 0 []
     rw [said_ok hi hc h2] at hM
     exact Ev.neg (by simp) (Ev.pos (by simp) (Ev.pos (by simp) (Ev.bind hM (Ev.pos rfl (Ev.neg (by simp) (Ev.pos rfl (Ev.pos rfl (Ev.pos (by simp) (Ev.now _)))))))))
    ·generalize ha : (⟨2, i, to_, (⟨c, z⟩ : IHead), (l.length : Int), ([] : List ByteArray)⟩ : IMsg) = A
     have ra : rd_T65 [A] 0 = A := rfl
     refine fin [G] [A] false (by rw [if_pos h1]; unfold gossipOf; rw [if_pos h2, hg]) (by rw [if_pos h1]; unfold askOf; rw [if_pos h2, if_neg h3, ha]) (by simp) (by simp) ?_
     refine Ev.step (fun k => by simp only [laws_FnGossiped.j0, rg, ra]; rfl) ?_
     subst hg
     subst ha
     have hM := impl_MsgOk_ev 1 i to_ c z 0 []
     rw [said_ok hi hc h2] at hM
     have hA := impl_MsgOk_ev 2 i to_ c z (l.length : Int) []
     rw [ask_ok hi hc h2 h3] at hA
     refine Ev.neg (by simp) (Ev.pos (by simp) (Ev.pos (by simp) (Ev.bind hM (Ev.pos rfl (Ev.neg (by simp) (Ev.pos rfl (Ev.pos rfl (Ev.neg (by simp) (Ev.pos (by simp) (Ev.bind hA (Ev.pos rfl (Ev.pos rfl (Ev.pos (by simp) ?_)))))))))))))
     exact Ev.one (Ev.now _) (by simp)
   ·exact fin [] [] false (by rw [if_pos h1]; unfold gossipOf; rw [if_neg h2]) (by rw [if_pos h1]; unfold askOf; rw [if_neg h2]) (by simp) (by simp) none_
  ·exact fin [] [] false (by rw [if_neg h1]) (by rw [if_neg h1]) (by simp) (by simp) none_
end Go.Proofs.YtnlndmoecljicaaGreat.Q
namespace Go.Proofs.YtnlndmoecljicaaGreat
theorem fnGossiped_holds : Rows.FnGossipedSaid := Q.FnGossiped_row Q.pure_FnGossiped
end Go.Proofs.YtnlndmoecljicaaGreat
end

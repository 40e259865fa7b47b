/- The roots of tiles: the program's and the reference's are one. Plain. -/
import Derived.Test.YtkdlcenchnimlaaJB2
import Derived.Test.YtkdlcenchnimlaaQf40
import Derived.Test.YtkdlcenchnimlaaQf53
import Derived.Test.YtkdlcenchnimlaaQf56
namespace Go.Proofs.Ytkdlcenchnimlaa.Q
open Go.RowKit Go.Proofs.Ytkdlcenchnimlaa.B Go.Proofs.YtkdlcenchnimlaaW.PrintWords Go.Proofs.YtkdlcenchnimlaaW.PrintMore
set_option linter.unusedVariables false
set_option linter.unusedSimpArgs false

theorem spec_l9Root_ev : ∀ (n : Nat) (l : List ByteArray), l.length ≤ n → 1 ≤ l.length → l.length ≤ 4611686018427387904 → (∀ x ∈ l, x.size ≤ bigB) → Ev (fun k => spec_l9Root.f k l) (rootBy id l) := by
  intro n
  induction n with
  | zero =>
    intro l h1 h2
    omega
  | succ n ih =>
    intro l h1 h2 h3 hs
    by_cases h : 2 ≤ l.length
    · obtain ⟨p1, p2, p3, p4⟩ := cut_parts l h
      have hh := half_lt h
      have e1 := ih (l.take (half l.length)) (by omega) p1 (by omega) (mem_take_of hs)
      have e2 := ih (l.drop (half l.length)) (by omega) p3 (by omega) (mem_drop_of hs)
      have e3 := spec_node _ _ (node_small (rootBy_size id bigB (by decide) _ (mem_take_of hs (n := half l.length))) (rootBy_size id bigB (by decide) _ (mem_drop_of hs (n := half l.length))))
      rw [rootBy_more id h]
      refine Ev.step (fun k => by simp only [spec_l9Root.f]; rfl) ?_
      refine Ev.neg (by omega) (Ev.bind (spec_half l.length h h3) ?_)
      exact Ev.pos (by omega) (Ev.pos (by omega) (Ev.bind e1 (Ev.bind e2 (Ev.bind e3 (Ev.now _)))))
    · obtain ⟨a, rfl⟩ := list_one (l := l) (by omega)
      rw [rootBy_one]
      refine Ev.step (f := fun _ => some a) (fun k => ?_) (Ev.now _)
      simp only [spec_l9Root.f]
      rfl

theorem impl_tile_one (a : ByteArray) : Ev (fun k => impl_TileRoot.f k [a]) a := by
  refine Ev.step (f := fun _ => some a) (fun k => ?_) (Ev.now _)
  simp only [impl_TileRoot.f]
  rfl
theorem impl_tile_j {l : List ByteArray} (h : 2 ≤ l.length) (h3 : l.length ≤ 4611686018427387904) (hs : ∀ x ∈ l, x.size ≤ bigB)
    (e1 : Ev (fun k => impl_TileRoot.f k (l.take (half l.length))) (rootBy id (l.take (half l.length)))) (e2 : Ev (fun k => impl_TileRoot.f k (l.drop (half l.length))) (rootBy id (l.drop (half l.length)))) :
    Ev (fun k => impl_TileRoot.j0 k l true) (rootBy id l) := by
  have hh := half_lt h
  have e3 := impl_node _ _ (node_small (rootBy_size id bigB (by decide) _ (mem_take_of hs (n := half l.length))) (rootBy_size id bigB (by decide) _ (mem_drop_of hs (n := half l.length))))
  rw [rootBy_more id h]
  refine Ev.step (fun k => by simp only [impl_TileRoot.j0]; rfl) ?_
  refine Ev.pos trivial (Ev.bind (impl_half_ev l.length h h3) ?_)
  exact Ev.pos (by omega) (Ev.pos (by omega) (Ev.bind e1 (Ev.bind e2 (Ev.bind (Ev.const e3) (Ev.now _)))))
theorem impl_tile_two {l : List ByteArray} (h : l.length = 2) (hs : ∀ x ∈ l, x.size ≤ bigB) : Ev (fun k => impl_TileRoot.f k l) (rootBy id l) := by
  have hh : half l.length = 1 := by rw [h]; decide
  match l, h with
  | [a, b], _ =>
    have e := impl_tile_j (l := [a, b]) (by simp) (by simp) hs (by rw [hh]; show Ev _ (rootBy id [a]); rw [rootBy_one]; exact impl_tile_one a) (by rw [hh]; show Ev _ (rootBy id [b]); rw [rootBy_one]; exact impl_tile_one b)
    refine Ev.step (fun k => ?_) e
    simp only [impl_TileRoot.f]
    rfl
theorem impl_tile_ev (l : List ByteArray) (h1 : 1 ≤ l.length) (h4 : l.length ≤ 4) (hs : ∀ x ∈ l, x.size ≤ bigB) : Ev (fun k => impl_TileRoot.f k l) (rootBy id l) := by
  match l, h1, h4 with
  | [a], _, _ => rw [rootBy_one]; exact impl_tile_one a
  | [a, b], _, _ => exact impl_tile_two rfl hs
  | [a, b, c], _, _ =>
    have hh : half [a, b, c].length = 2 := by show half 3 = 2; decide
    have e := impl_tile_j (l := [a, b, c]) (by simp) (by simp) hs (by rw [hh]; exact impl_tile_two rfl (mem_take_of hs)) (by rw [hh]; show Ev _ (rootBy id [c]); rw [rootBy_one]; exact impl_tile_one c)
    refine Ev.step (fun k => ?_) e
    simp only [impl_TileRoot.f]
    rfl
  | [a, b, c, d], _, _ =>
    have hh : half [a, b, c, d].length = 2 := by show half 4 = 2; decide
    have e := impl_tile_j (l := [a, b, c, d]) (by simp) (by simp) hs (by rw [hh]; exact impl_tile_two rfl (mem_take_of hs)) (by rw [hh]; exact impl_tile_two rfl (mem_drop_of hs))
    refine Ev.step (fun k => ?_) e
    simp only [impl_TileRoot.f]
    rfl
theorem tileRoot_ev (l : List ByteArray) (hl : l.length ≤ 4611686018427387904) (hs : ∀ x ∈ l, x.size ≤ bigB) : ∃ r, Ev (fun k => spec_TileRoot.f k l) r ∧ Ev (fun k => impl_TileRoot.f k l) r := by
  by_cases h : 1 ≤ l.length ∧ l.length ≤ 4
  · refine ⟨rootBy id l, ?_, impl_tile_ev l h.1 h.2 hs⟩
    unfold spec_TileRoot.f spec_l1In.f
    rw [if_pos (by omega), decide_eq_true (by omega)]
    simp only [Option.bind_some]
    exact Ev.pos trivial (Ev.bind (spec_l9Root_ev l.length l (Nat.le_refl _) h.1 hl hs) (Ev.now _))
  · refine ⟨⟨#[]⟩, ?_, ?_⟩
    · unfold spec_TileRoot.f spec_l1In.f
      by_cases h1 : (l.length : Int) ≥ 1
      · rw [if_pos h1, decide_eq_false (by omega)]
        simp only [Option.bind_some]
        exact Ev.neg (by simp) (Ev.now _)
      · rw [if_neg h1]
        simp only [Option.bind_some]
        exact Ev.neg (by simp) (Ev.now _)
    · refine Ev.step (f := fun k => impl_TileRoot.j0 k l ((l.length : Int) == 4)) (fun k => ?_) ?_
      · simp only [impl_TileRoot.f]
        rw [if_neg (by omega), if_neg (by omega), if_neg (by omega)]
      · refine Ev.step (f := fun _ => some ⟨#[]⟩) (fun k => ?_) (Ev.now _)
        have hb : ((l.length : Int) == 4) = false := by simp; omega
        rw [hb]
        simp only [impl_TileRoot.j0]
        rfl
end Go.Proofs.Ytkdlcenchnimlaa.Q

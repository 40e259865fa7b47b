/- A whole tile has as its root what stands in the tile above; all tiles of a level have each node once. Plain. -/
import Derived.Test.YtkdlcenchnimlaaTiles
import Derived.Test.YtkdlcenchnimlaaRoots
import Derived.Test.YtkdlcenchnimlaaRootOf
import Derived.Test.YtkdlcenchnimlaaJB2
import Derived.Test.YtkdlcenchnimlaaQf38
import Derived.Test.YtkdlcenchnimlaaLawFnTiles
namespace Go.Proofs.Ytkdlcenchnimlaa.Q
open Go.RowKit Go.Proofs.Ytkdlcenchnimlaa.B Go.Proofs.YtkdlcenchnimlaaW.PrintWords Go.Proofs.YtkdlcenchnimlaaW.PrintMore
set_option linter.unusedVariables false
set_option linter.unusedSimpArgs false

theorem half_double (e : Nat) : half (2 * 2 ^ e) = 2 ^ e := by
  unfold half
  congr 1
  have hp : 1 ≤ 2 ^ e := Nat.one_le_two_pow
  rw [Nat.log2_eq_iff (by omega), Nat.pow_succ]
  omega
theorem seg_seg {l : List ByteArray} {a b c d : Nat} (h : a + d ≤ b) : (((l.take b).drop a).take d).drop c = (l.take (a + d)).drop (a + c) := by
  rw [List.take_drop, List.take_take, Nat.min_eq_left h, List.drop_drop]
theorem seg_take {l : List ByteArray} {a b d : Nat} (h : a + d ≤ b) : ((l.take b).drop a).take d = (l.take (a + d)).drop a := by
  rw [List.take_drop, List.take_take, Nat.min_eq_left h]
theorem seg_drop {l : List ByteArray} {a b c : Nat} : ((l.take b).drop a).drop c = (l.take b).drop (a + c) := by
  rw [List.drop_drop]
theorem seg_two {l : List ByteArray} {a e : Nat} (h : a + 2 * 2 ^ e ≤ l.length) : rootBy leafH ((l.take (a + 2 * 2 ^ e)).drop a) = nodeH (rootBy leafH ((l.take (a + 2 ^ e)).drop a)) (rootBy leafH ((l.take (a + 2 * 2 ^ e)).drop (a + 2 ^ e))) := by
  have hp : 1 ≤ 2 ^ e := Nat.one_le_two_pow
  have hl : ((l.take (a + 2 * 2 ^ e)).drop a).length = 2 * 2 ^ e := by simp; omega
  rw [rootBy_more leafH (by omega), hl, half_double, seg_take (by omega), seg_drop]
theorem span_two (v : Nat) : span v = 2 ^ (2 * v) := by
  unfold span
  rw [show (4 : Nat) = 2 ^ 2 from rfl, ← Nat.pow_mul]
theorem span_succ (v : Nat) : span (v + 1) = 4 * span v := by
  unfold span
  rw [Nat.pow_succ]
  omega
theorem node_four (l : List ByteArray) (v i : Nat) (h : (4 * i + 4) * span v ≤ l.length) : nodeAt l (v + 1) i = rootBy id [nodeAt l v (4 * i), nodeAt l v (4 * i + 1), nodeAt l v (4 * i + 2), nodeAt l v (4 * i + 3)] := by
  have e4 : rootBy id [nodeAt l v (4 * i), nodeAt l v (4 * i + 1), nodeAt l v (4 * i + 2), nodeAt l v (4 * i + 3)] = nodeH (nodeH (nodeAt l v (4 * i)) (nodeAt l v (4 * i + 1))) (nodeH (nodeAt l v (4 * i + 2)) (nodeAt l v (4 * i + 3))) := by
    have e2 : ∀ a b : ByteArray, rootBy id [a, b] = nodeH a b := fun a b => by
      rw [rootBy_more id (by simp)]
      have : half [a, b].length = 1 := by show half 2 = 1; decide
      rw [this]
      show nodeH (rootBy id [a]) (rootBy id [b]) = _
      rw [rootBy_one, rootBy_one]
      rfl
    rw [rootBy_more id (by simp)]
    have : half [nodeAt l v (4 * i), nodeAt l v (4 * i + 1), nodeAt l v (4 * i + 2), nodeAt l v (4 * i + 3)].length = 2 := by show half 4 = 2; decide
    rw [this]
    show nodeH (rootBy id [nodeAt l v (4 * i), nodeAt l v (4 * i + 1)]) (rootBy id [nodeAt l v (4 * i + 2), nodeAt l v (4 * i + 3)]) = _
    rw [e2, e2]
  rw [e4]
  unfold nodeAt
  rw [span_succ, span_two]
  rw [span_two] at h
  generalize hs : 2 ^ (2 * v) = s at h ⊢
  have hs2 : 2 ^ (2 * v + 1) = 2 * s := by rw [Nat.pow_succ, hs]; omega
  have f0 : 4 * i * s = i * (4 * s) := by rw [Nat.mul_comm 4 i, Nat.mul_assoc]
  have g : ∀ t, (4 * i + t) * s = i * (4 * s) + t * s := fun t => by rw [Nat.add_mul, f0]
  have g1 : (i + 1) * (4 * s) = i * (4 * s) + 4 * s := by rw [Nat.add_mul, Nat.one_mul]
  rw [g] at h
  simp only [g1, Nat.add_assoc, g, f0, Nat.one_mul, Nat.reduceAdd]
  generalize i * (4 * s) = a at h ⊢
  have k1 := seg_two (l := l) (a := a) (e := 2 * v + 1) (by rw [hs2]; omega)
  have k2 := seg_two (l := l) (a := a) (e := 2 * v) (by rw [hs]; omega)
  have k3 := seg_two (l := l) (a := a + 2 * s) (e := 2 * v) (by rw [hs]; omega)
  rw [hs2] at k1
  rw [hs] at k2 k3
  rw [show a + 4 * s = a + 2 * (2 * s) from by omega, k1, k2, show a + 2 * (2 * s) = a + 2 * s + 2 * s from by omega, k3, show a + 3 * s = a + 2 * s + s from by omega]

theorem nodeAt_size (l : List ByteArray) (v j : Nat) : (nodeAt l v j).size ≤ bigB := rootBy_size leafH bigB (by decide) _ (fun x _ => by rw [leafH_size]; decide)
theorem tile_mem (l : List ByteArray) (v i : Nat) : ∀ x ∈ tileAt l v i, x.size ≤ bigB := by
  intro x hx
  simp only [tileAt, List.mem_map] at hx
  obtain ⟨t, _, rfl⟩ := hx
  exact nodeAt_size _ _ _

theorem t_up {i : Nat} (h : i ≤ 200) : wrap64 (Int.tdiv (i : Int) 4) = ((i / 4 : Nat) : Int) := by
  rw [Int.tdiv_eq_ediv_of_nonneg (by omega), w64 (by omega) (by omega)]
  omega
theorem t_mod (i : Nat) : Int.tmod (i : Int) 4 = ((i % 4 : Nat) : Int) := by
  rw [Int.tmod_eq_emod_of_nonneg (by omega)]
  omega
theorem t_next {i : Nat} (h : i ≤ 200) : wrap64 ((i : Int) + 1) = ((i + 1 : Nat) : Int) := by
  rw [w64 (by omega) (by omega)]
  omega
theorem t_sum {i q c : Nat} (h : 4 * i < q) (hq : q ≤ 200) (hc : c = min 4 (q - 4 * i)) : wrap64 (((min (4 * i) q : Nat) : Int) + (c : Int)) = ((min (4 * (i + 1)) q : Nat) : Int) := by
  rw [w64 (by omega) (by omega)]
  omega
theorem tiles_four (l : List ByteArray) (v i : Nat) (h4i : (4 * i + 4) * span v ≤ l.length) (hq : 4 * i + 4 ≤ l.length / span v) (hq2 : i < l.length / span (v + 1)) : rdOf ByteArray.empty (tileAt l (v + 1) (i / 4)) ((i % 4 : Nat) : Int) = rootBy id (tileAt l v i) := by
  have hx : (tileAt l (v + 1) (i / 4))[i % 4]? = some (nodeAt l (v + 1) i) := by
    unfold tileAt
    rw [List.getElem?_map, List.getElem?_range (by omega)]
    simp only [Option.map_some]
    rw [show 4 * (i / 4) + i % 4 = i from by omega]
  have ht : tileAt l v i = [nodeAt l v (4 * i), nodeAt l v (4 * i + 1), nodeAt l v (4 * i + 2), nodeAt l v (4 * i + 3)] := by
    have : min 4 (l.length / span v - 4 * i) = 4 := by omega
    unfold tileAt
    rw [this]
    rfl
  rw [rdOf_at hx, ht, ← node_four l v i h4i]
theorem tiles_step (l : List ByteArray) (hl : l.length ≤ 200) (hs : ∀ x ∈ l, x.size ≤ bigB) (v : Nat) (hv : v ≤ 2) (i q c : Nat) (hq : l.length / span v = q) (hq200 : q ≤ 200) (hi : 4 * i < q) (hc : (tileAt l v i).length = c) (hc1 : c = min 4 (q - 4 * i))
    (hI : Ev (fun k => laws_FnTiles.l1 k l ((span v : Nat) : Int) (v : Int) ((min (4 * (i + 1)) q : Nat) : Int) ((i + 1 : Nat) : Int)) true) :
    Ev (fun k => laws_FnTiles.j2 k l ((span v : Nat) : Int) (v : Int) ((min (4 * i) q : Nat) : Int) (i : Int) (tileAt l v i) false) true := by
  have hp := span_pos v
  have hsum := t_sum hi hq200 hc1
  refine Ev.step (fun k => by simp only [laws_FnTiles.j2]; rfl) ?_
  refine Ev.neg (by simp) ?_
  rw [hc, hsum, t_next (i := i) (by omega), t_up (by omega), t_mod, t_next (i := v) (by omega)]
  by_cases h4 : c = 4
  · have hq4 : l.length / span (v + 1) = q / 4 := by rw [span_succ, Nat.mul_comm, ← Nat.div_div_eq_div_mul, hq]
    have h4q : 4 * i + 4 ≤ q := by omega
    have h4i : (4 * i + 4) * span v ≤ l.length := (Nat.le_div_iff_mul_le hp).1 (by rw [hq]; exact h4q)
    have hT2 := tileOf_ev l (v + 1) (i / 4) hl hs (by omega) (by rw [hq4]; omega)
    have hlen2 : (tileAt l (v + 1) (i / 4)).length = min 4 (q / 4 - 4 * (i / 4)) := by rw [tileAt_length, hq4]
    have hlt : i % 4 < (tileAt l (v + 1) (i / 4)).length := by rw [hlen2]; omega
    have hR := impl_tile_ev (tileAt l v i) (by omega) (by omega) (tile_mem l v i)
    have hF := tiles_four l v i h4i (by rw [hq]; exact h4q) (by rw [hq4]; omega)
    clear hsum hlen2 h4i hq hc1 hi
    refine Ev.pos (by omega) (Ev.bind hT2 (Ev.neg (by omega) (Ev.pos (by omega) (Ev.pos (by omega) (Ev.bind hR (Ev.pos (by rw [hF]) hI))))))
  · exact Ev.neg (by omega) hI
theorem tiles_l1 (l : List ByteArray) (hl : l.length ≤ 200) (hs : ∀ x ∈ l, x.size ≤ bigB) (v : Nat) (hv : v ≤ 2) (hnext : Ev (fun k => laws_FnTiles.l0 k l ((span (v + 1) : Nat) : Int) ((v + 1 : Nat) : Int)) true) (q : Nat) (hq : l.length / span v = q) :
    ∀ (d i : Nat), i + d = (q + 3) / 4 → Ev (fun k => laws_FnTiles.l1 k l ((span v : Nat) : Int) (v : Int) ((min (4 * i) q : Nat) : Int) (i : Int)) true := by
  have hp := span_pos v
  have hd : q ≤ 200 := by rw [← hq]; exact Nat.le_trans (Nat.div_le_self _ _) hl
  have hsp : span v ≤ 16 := by
    unfold span
    exact Nat.le_trans (Nat.pow_le_pow_right (by decide) hv) (by decide)
  have hcount := tileCount_eq l.length v hl (by omega)
  rw [hq] at hcount
  intro d
  induction d with
  | zero =>
    intro i hi
    have hdiv : ((l.length : Int) / ((span v : Nat) : Int)) = (q : Int) := by rw [← hq]; simp
    have hmin : min (4 * i) q = q := by omega
    refine Ev.step (fun k => ?_) hnext
    simp only [laws_FnTiles.l1]
    rw [hcount]
    simp only [Option.bind_some]
    rw [hdiv, span_succ, hmin, t_next (i := v) (by omega), if_neg (by omega), if_neg (by omega), w64 (x := (q : Int)) (by omega) (by omega), if_pos rfl, w64 (by omega) (by omega)]
    congr 1
  | succ d ih =>
    intro i hi
    have hi4 : 4 * i < q := by omega
    have hT := tileOf_ev l v i hl hs (by omega) (by rw [hq]; omega)
    obtain ⟨c, hc⟩ : ∃ c, (tileAt l v i).length = c := ⟨_, rfl⟩
    have hc1 : c = min 4 (q - 4 * i) := by rw [← hc, tileAt_length, hq]
    have hJ := tiles_step l hl hs v hv i q c hq hd hi4 hc hc1 (ih (i + 1) (by omega))
    have hc0 : ¬ ((c : Int) = 0) := by omega
    have hb : decide ((c : Int) > 4) = false := decide_eq_false (by omega)
    refine Ev.step (fun k => by simp only [laws_FnTiles.l1]; rw [hcount]) ?_
    simp only [Option.bind_some]
    refine Ev.pos (by omega) (Ev.bind hT ?_)
    rw [hc, hb]
    exact Ev.neg hc0 hJ
theorem rootBy_32 (l : List ByteArray) : (rootBy leafH l).size = 32 := by
  by_cases h : 2 ≤ l.length
  · rw [rootBy_more leafH h]
    exact nodeH_size _ _
  · by_cases h0 : l.length = 0
    · rw [List.eq_nil_of_length_eq_zero h0, rootBy_nil]
      exact sha_size _
    · obtain ⟨a, rfl⟩ := list_one (l := l) (by omega)
      rw [rootBy_one]
      exact leafH_size _
theorem tiles_end (l : List ByteArray) (hl : l.length ≤ 200) (hs : ∀ x ∈ l, x.size ≤ bigB) (s : Int) : Ev (fun k => laws_FnTiles.l0 k l s ((3 : Nat) : Int)) true := by
  refine Ev.step (fun k => by simp only [laws_FnTiles.l0]; rfl) ?_
  refine Ev.neg (by omega) ?_
  have hT : Ev (fun k => impl_TileOf.f k l 0 (-1)) ([] : List ByteArray) := by
    unfold impl_TileOf.f
    rw [show (0 : Int) = ((0 : Nat) : Int) from rfl, tileCount_eq l.length 0 hl (by omega)]
    simp only [Option.bind_some, in_eq]
    rw [decide_eq_false (by omega)]
    exact Ev.neg (by simp) (Ev.now _)
  refine Ev.bind hT (Ev.pos rfl ?_)
  have h0 : Ev (fun k => impl_TileRoot.f k ([] : List ByteArray)) (⟨#[]⟩ : ByteArray) := by
    refine Ev.step (f := fun k => impl_TileRoot.j0 k ([] : List ByteArray) false) (fun k => ?_) ?_
    · simp only [impl_TileRoot.f]
      rw [if_neg (by simp), if_neg (by simp), if_neg (by simp)]
      congr 1
    · refine Ev.step (f := fun _ => some ⟨#[]⟩) (fun k => ?_) (Ev.now _)
      simp only [impl_TileRoot.j0]
      rfl
  refine Ev.bind h0 (Ev.pos (by rw [Go.Lib.toList_data]) ?_)
  refine Ev.bind (impl_RootOf_ev l hl hs) ?_
  refine Ev.bind (impl_tile_one _) ?_
  refine Ev.one (Ev.now _) ?_
  rw [rootBy_32]
  rfl
theorem tiles_l0 (l : List ByteArray) (hl : l.length ≤ 200) (hs : ∀ x ∈ l, x.size ≤ bigB) : ∀ (d v : Nat), v + d = 3 → Ev (fun k => laws_FnTiles.l0 k l ((span v : Nat) : Int) (v : Int)) true := by
  intro d
  induction d with
  | zero =>
    intro v hv
    obtain rfl : v = 3 := by omega
    exact tiles_end l hl hs _
  | succ d ih =>
    intro v hv
    have h1 := tiles_l1 l hl hs v (by omega) (ih (v + 1) (by omega)) (l.length / span v) rfl ((l.length / span v + 3) / 4) 0 (by omega)
    refine Ev.step (fun k => ?_) h1
    simp only [laws_FnTiles.l0]
    rw [if_pos (by omega)]
    simp

theorem drawMany_ev (l0 : List Int) (hl : l0.length ≤ 1048576) : ∃ l, Ev (fun k => spec_DrawMany.f k l0) l ∧ l.length ≤ 200 ∧ ∀ x ∈ l, x.size ≤ bigB := by
  obtain ⟨h, hN⟩ := l1New_ev l0 hl
  obtain ⟨n, i1, h1, e1, hn, d1⟩ := l1Int_ok h ([0, 3, 4, 5, 16, 17, 20, 21, 33] : List Int) (Drawer.new hl) (by decide) (by decide)
  have main : ∀ (n : Nat) (acc : List ByteArray) (i h : Int), Drawer l0 i → acc.length + n ≤ 200 → (∀ x ∈ acc, x.size ≤ bigB) → ∃ l i' h', Ev (fun k => spec_l9List.l0 k acc (n : Int) l0 i h) (l, i', h') ∧ l.length ≤ 200 ∧ ∀ x ∈ l, x.size ≤ bigB := by
    intro n
    induction n with
    | zero =>
      intro acc i h hd ha hx
      refine ⟨acc, i, h, Ev.step (f := fun _ => some (acc, i, h)) (fun k => ?_) (Ev.now _), by omega, hx⟩
      simp only [spec_l9List.l0]
      rw [if_neg (by omega)]
    | succ n ih =>
      intro acc i h hd ha hx
      obtain ⟨s, i2, h2, e2, hs, d2⟩ := l1Str_ok h ([(⟨#[]⟩ : ByteArray), (⟨#[97]⟩ : ByteArray), (⟨#[98]⟩ : ByteArray)] : List ByteArray) hd (by simp) (by simp)
      have hss : s.size ≤ bigB := by
        simp only [List.mem_cons, List.not_mem_nil, or_false] at hs
        rcases hs with rfl | rfl | rfl <;> decide
      obtain ⟨l, i3, h3, e3, hl3, hx3⟩ := ih (acc ++ [s]) i2 h2 d2 (by simp; omega) (fun x hm => by
        rcases List.mem_append.1 hm with hm | hm
        · exact hx x hm
        · rw [List.mem_singleton.1 hm]
          exact hss)
      refine ⟨l, i3, h3, Ev.step (fun k => ?_) e3, hl3, hx3⟩
      simp only [spec_l9List.l0]
      rw [if_pos (by omega), e2]
      simp only [Option.bind_some]
      rw [if_pos (by omega), w64 (x := ((n + 1 : Nat) : Int) - 1) (by omega) (by omega)]
      congr 1
      omega
  have hn2 : 0 ≤ n ∧ n ≤ 33 := by
    simp only [List.mem_cons, List.not_mem_nil, or_false] at hn
    omega
  obtain ⟨l, i2, h2, e2, hl2, hx2⟩ := main n.toNat [] i1 h1 d1 (by simp; omega) (by simp)
  rw [show ((n.toNat : Nat) : Int) = n from by omega] at e2
  refine ⟨l, ?_, hl2, hx2⟩
  unfold spec_DrawMany.f
  refine Ev.bind hN ?_
  have hL : Ev (fun k => spec_l9List.f k l0 0 h) (l, i2, h2) := by
    unfold spec_l9List.f
    rw [e1]
    exact e2
  exact Ev.bind hL (Ev.now _)

theorem pure_FnTiles : laws_FnTiles.Pure := by
  intro l gl
  refine Ev.rounds (g := fun k => laws_FnTiles.f k l) ?_
  unfold laws_FnTiles.f laws_big.f
  simp only [Option.bind_some]
  by_cases h : (l.length : Int) > 1048576
  · rw [decide_eq_true h]
    exact Ev.pos rfl (Ev.now _)
  · rw [decide_eq_false h]
    obtain ⟨t, ht, hl, hx⟩ := drawMany_ev l (by omega)
    exact Ev.neg (by simp) (Ev.bind ht (tiles_l0 t hl hx 3 0 rfl))
end Go.Proofs.Ytkdlcenchnimlaa.Q
namespace Go.Proofs.Ytkdlcenchnimlaa
theorem fnTiles_holds : Rows.FnTilesSaid := Q.FnTiles_row Q.pure_FnTiles
end Go.Proofs.Ytkdlcenchnimlaa

/- Edges of lists: what stands in them, and that they tell the root of a list of at most ten texts. Plain. -/
import Derived.Test.YtnekmofpamnceaaEdgeRI
import Derived.Test.YtnekmofpamnceaaEdgeAdd
namespace Go.Proofs.Ytnekmofpamnceaa.Q
open Go.RowKit Go.Proofs.Ytnekmofpamnceaa.B Go.Proofs.YtnekmofpamnceaaW.PrintWords Go.Proofs.YtnekmofpamnceaaW.PrintMore
set_option linter.unusedVariables false
set_option linter.unusedSimpArgs false

/-- A hash put behind n of them, its like joined. -/
def carry : Nat → Nat → List ByteArray → ByteArray → List ByteArray
  | 0, _, hs, h => hs ++ [h]
  | k + 1, n, hs, h => if n % 2 = 1 then carry k (n / 2) hs.dropLast (nodeH (hs.getLastD ByteArray.empty) h) else hs ++ [h]
def edgeStep (e : Nat × List ByteArray) (s : ByteArray) : Nat × List ByteArray := (e.1 + 1, carry 8 e.1 e.2 (leafH s))
def edgeFrom (e : Nat × List ByteArray) (l : List ByteArray) : Nat × List ByteArray := l.foldl edgeStep e
def edgeHs (l : List ByteArray) : List ByteArray := (edgeFrom (0, []) l).2
set_option maxRecDepth 100000 in
theorem pops_half : ∀ n : Fin 256, pops n.1 = pops (n.1 / 2) + n.1 % 2 := by decide +kernel
set_option maxRecDepth 100000 in
theorem bit_one : ∀ n : Fin 256, Go.bits .and .i64 (n.1 : Int) 1 = ((n.1 % 2 : Nat) : Int) := by decide +kernel
theorem pop_half {n : Nat} (h : n ≤ 255) : pops n = pops (n / 2) + n % 2 := pops_half ⟨n, by omega⟩
theorem bit1 {n : Nat} (h : n ≤ 255) : Go.bits .and .i64 (n : Int) 1 = ((n % 2 : Nat) : Int) := bit_one ⟨n, by omega⟩
theorem carry_length : ∀ (k n : Nat) (hs : List ByteArray) (h : ByteArray), n < 2 ^ k → n ≤ 254 → hs.length = pops n → (carry k n hs h).length = pops (n + 1) := by
  intro k
  induction k with
  | zero =>
    intro n hs h hn h2 hl
    obtain rfl : n = 0 := by omega
    have : pops 0 = 0 := by decide
    have h1 : pops (0 + 1) = 1 := by decide
    rw [h1]
    simp only [carry, List.length_append, List.length_singleton]
    omega
  | succ k ih =>
    intro n hs h hn h2 hl
    have p1 := pop_half (n := n) (by omega)
    have p2 := pop_half (n := n + 1) (by omega)
    rw [Nat.pow_succ] at hn
    by_cases ho : n % 2 = 1
    · have e : (n + 1) / 2 = n / 2 + 1 := by omega
      have := ih (n / 2) hs.dropLast (nodeH (hs.getLastD ByteArray.empty) h) (by omega) (by omega) (by rw [List.length_dropLast]; omega)
      simp only [carry]
      rw [if_pos ho, this, p2, e]
      omega
    · have e : (n + 1) / 2 = n / 2 := by omega
      simp only [carry]
      rw [if_neg ho, List.length_append, List.length_singleton, p2, e]
      omega
theorem getLastD_mem {l : List ByteArray} (h : 1 ≤ l.length) : l[l.length - 1]? = some (l.getLastD ByteArray.empty) := by
  obtain ⟨x, hx⟩ := get_some (l := l) (i := l.length - 1) (by omega)
  rw [hx, List.getLastD_eq_getLast?, List.getLast?_eq_getElem?, hx]
  rfl
theorem carry_32 : ∀ (k n : Nat) (hs : List ByteArray) (h : ByteArray), (∀ x ∈ hs, x.size = 32) → h.size = 32 → ∀ x ∈ carry k n hs h, x.size = 32 := by
  intro k
  induction k with
  | zero =>
    intro n hs h hx hh x hm
    simp only [carry, List.mem_append, List.mem_singleton] at hm
    rcases hm with hm | rfl
    · exact hx x hm
    · exact hh
  | succ k ih =>
    intro n hs h hx hh x hm
    simp only [carry] at hm
    by_cases ho : n % 2 = 1
    · rw [if_pos ho] at hm
      exact ih (n / 2) hs.dropLast _ (fun y hy => hx y ((List.dropLast_sublist _).subset hy)) (nodeH_size _ _) x hm
    · rw [if_neg ho] at hm
      simp only [List.mem_append, List.mem_singleton] at hm
      rcases hm with hm | rfl
      · exact hx x hm
      · exact hh
theorem addL_eq : ∀ (k n : Nat) (hs : List ByteArray) (h : ByteArray) (j : Nat), n < 2 ^ k → k ≤ j → n ≤ 255 → hs.length = pops n → (∀ x ∈ hs, x.size = 32) → h.size = 32 →
    ∃ a b, addL (j + 1) hs (n : Int) h = some (a, b) ∧ a ++ [b] = carry k n hs h ∧ a.length ≤ hs.length := by
  intro k
  induction k with
  | zero =>
    intro n hs h j hn hj h2 hl hx hh
    obtain rfl : n = 0 := by omega
    refine ⟨hs, h, ?_, rfl, Nat.le_refl _⟩
    simp only [addL]
    rw [bit1 (by omega), if_neg (by omega)]
  | succ k ih =>
    intro n hs h j hn hj h2 hl hx hh
    have p1 := pop_half (n := n) h2
    rw [Nat.pow_succ] at hn
    simp only [addL]
    rw [bit1 h2]
    by_cases ho : n % 2 = 1
    · have hl1 : 1 ≤ hs.length := by omega
      have hl8 : hs.length ≤ 300 := by
        have : pops n ≤ 300 := by
          have : ∀ n : Fin 256, pops n.1 ≤ 300 := by decide +kernel
          exact this ⟨n, by omega⟩
        omega
      have hw : wrap64 ((hs.length : Int) - 1) = ((hs.length - 1 : Nat) : Int) := by
        rw [B.w64 (by omega) (by omega)]
        omega
      have hg := getLastD_mem hl1
      have hg32 := hx _ (List.mem_of_getElem? hg)
      have hnd := impl_node (hs.getLastD ByteArray.empty) h (by omega)
      obtain ⟨j', rfl⟩ : ∃ j', j = j' + 1 := ⟨j - 1, by omega⟩
      obtain ⟨a, b, e1, e2, e3⟩ := ih (n / 2) hs.dropLast (nodeH (hs.getLastD ByteArray.empty) h) j' (by omega) (by omega) (by omega) (by rw [List.length_dropLast]; omega) (fun y hy => hx y ((List.dropLast_sublist _).subset hy)) (nodeH_size _ _)
      refine ⟨a, b, ?_, ?_, by rw [List.length_dropLast] at e3; omega⟩
      · rw [if_pos (by omega), hw, if_pos (by omega), if_pos (by omega), rdOf_at hg, hnd]
        simp only [Option.bind_some, Int.toNat_natCast]
        rw [← List.dropLast_eq_take]
        have e : (n : Int) / 2 = ((n / 2 : Nat) : Int) := by omega
        rw [e]
        exact e1
      · simp only [carry]
        rw [if_pos ho]
        exact e2
    · refine ⟨hs, h, ?_, ?_, Nat.le_refl _⟩
      · rw [if_neg (by omega)]
      · simp only [carry]
        rw [if_neg ho]
theorem impl_Edge_add_eq (n : Nat) (hs : List ByteArray) (s : ByteArray) (hn : n ≤ 200) (hl : hs.length = pops n) (hx : ∀ x ∈ hs, x.size = 32) (hs2 : s.size ≤ 1048700) : impl_Edge_add.f (n : Int) hs s = some (carry 8 n hs (leafH s)) := by
  unfold impl_Edge_add.f
  rw [impl_leaf s (by omega)]
  simp only [Option.bind_some]
  obtain ⟨a, b, e1, e2, e3⟩ := addL_eq 8 n hs (leafH s) 63 (by omega) (by omega) (by omega) hl hx (leafH_size s)
  have hl8 : hs.length ≤ 300 := by
    have : ∀ n : Fin 256, pops n.1 ≤ 300 := by decide +kernel
    have := this ⟨n, by omega⟩
    simp only at this
    omega
  rw [e1]
  simp only [Option.bind_some]
  rw [if_pos (by omega), e2]
theorem edgeFrom_inv : ∀ (l : List ByteArray) (e : Nat × List ByteArray), e.1 + l.length ≤ 200 → e.2.length = pops e.1 → (∀ x ∈ e.2, x.size = 32) → (edgeFrom e l).1 = e.1 + l.length ∧ (edgeFrom e l).2.length = pops (edgeFrom e l).1 ∧ ∀ x ∈ (edgeFrom e l).2, x.size = 32 := by
  intro l
  induction l with
  | nil =>
    intro e h1 h2 h3
    exact ⟨rfl, h2, h3⟩
  | cons a l ih =>
    intro e h1 h2 h3
    rw [List.length_cons] at h1 ⊢
    obtain ⟨p, q, r⟩ := ih (edgeStep e a) (by simp only [edgeStep]; omega) (carry_length 8 e.1 e.2 (leafH a) (by omega) (by omega) h2) (carry_32 8 e.1 e.2 (leafH a) h3 (leafH_size a))
    refine ⟨?_, q, r⟩
    show (edgeFrom (edgeStep e a) l).1 = _
    rw [p]
    simp only [edgeStep]
    omega
/-- The edge of a list. -/
def edgeOf (l : List ByteArray) : Int × List ByteArray := if (l.length : Int) > 200 then (0, []) else ((l.length : Int), edgeHs l)
theorem edgeHs_inv (l : List ByteArray) (h : l.length ≤ 200) : (edgeHs l).length = pops l.length ∧ ∀ x ∈ edgeHs l, x.size = 32 := by
  obtain ⟨p, q, r⟩ := edgeFrom_inv l (0, []) (by simp only; omega) (by simp only [List.length_nil]; decide) (by simp)
  rw [p] at q
  simp only [Nat.zero_add] at q
  exact ⟨q, r⟩
theorem edgeOk_hs (l : List ByteArray) (h : l.length ≤ 200) : edgeOk (l.length : Int) (edgeHs l) = true := by
  obtain ⟨p, q⟩ := edgeHs_inv l h
  unfold edgeOk
  rw [if_pos (by omega), Int.toNat_natCast, if_pos p]
  unfold all32
  rw [List.all_eq_true]
  intro x hx
  rw [q x hx]
  rfl
theorem edgeHs_snoc (l : List ByteArray) (s : ByteArray) (h : l.length ≤ 200) : edgeHs (l ++ [s]) = carry 8 l.length (edgeHs l) (leafH s) := by
  obtain ⟨p, _, _⟩ := edgeFrom_inv l (0, []) (by simp only; omega) (by simp only [List.length_nil]; decide) (by simp)
  simp only [Nat.zero_add] at p
  unfold edgeHs
  show (List.foldl edgeStep (0, []) (l ++ [s])).2 = _
  rw [List.foldl_append]
  show (carry 8 (edgeFrom (0, []) l).1 (edgeFrom (0, []) l).2 (leafH s)) = _
  rw [p]
theorem root2 (a b : ByteArray) : rootBy leafH [a, b] = nodeH (leafH a) (leafH b) := by
  rw [rootBy_more leafH (by simp)]
  have hh : half [a, b].length = 1 := by show half 2 = 1; decide
  rw [hh]
  show nodeH (rootBy leafH [a]) (rootBy leafH [b]) = _
  rw [rootBy_one, rootBy_one]
theorem root3 (a b c : ByteArray) : rootBy leafH [a, b, c] = nodeH (nodeH (leafH a) (leafH b)) (leafH c) := by
  rw [rootBy_more leafH (by simp)]
  have hh : half [a, b, c].length = 2 := by show half 3 = 2; decide
  rw [hh]
  show nodeH (rootBy leafH [a, b]) (rootBy leafH [c]) = _
  rw [root2, rootBy_one]
theorem root4 (a b c d : ByteArray) : rootBy leafH [a, b, c, d] = nodeH (nodeH (leafH a) (leafH b)) (nodeH (leafH c) (leafH d)) := by
  rw [rootBy_more leafH (by simp)]
  have hh : half [a, b, c, d].length = 2 := by show half 4 = 2; decide
  rw [hh]
  show nodeH (rootBy leafH [a, b]) (rootBy leafH [c, d]) = _
  rw [root2, root2]
theorem root5 (a b c d e : ByteArray) : rootBy leafH [a, b, c, d, e] = nodeH (nodeH (nodeH (leafH a) (leafH b)) (nodeH (leafH c) (leafH d))) (leafH e) := by
  rw [rootBy_more leafH (by simp)]
  have hh : half [a, b, c, d, e].length = 4 := by show half 5 = 4; decide
  rw [hh]
  show nodeH (rootBy leafH [a, b, c, d]) (rootBy leafH [e]) = _
  rw [root4, rootBy_one]
theorem root6 (a b c d e f : ByteArray) : rootBy leafH [a, b, c, d, e, f] = nodeH (nodeH (nodeH (leafH a) (leafH b)) (nodeH (leafH c) (leafH d))) (nodeH (leafH e) (leafH f)) := by
  rw [rootBy_more leafH (by simp)]
  have hh : half [a, b, c, d, e, f].length = 4 := by show half 6 = 4; decide
  rw [hh]
  show nodeH (rootBy leafH [a, b, c, d]) (rootBy leafH [e, f]) = _
  rw [root4, root2]
theorem root7 (a b c d e f g : ByteArray) : rootBy leafH [a, b, c, d, e, f, g] = nodeH (nodeH (nodeH (leafH a) (leafH b)) (nodeH (leafH c) (leafH d))) (nodeH (nodeH (leafH e) (leafH f)) (leafH g)) := by
  rw [rootBy_more leafH (by simp)]
  have hh : half [a, b, c, d, e, f, g].length = 4 := by show half 7 = 4; decide
  rw [hh]
  show nodeH (rootBy leafH [a, b, c, d]) (rootBy leafH [e, f, g]) = _
  rw [root4, root3]
theorem root8 (a b c d e f g h : ByteArray) : rootBy leafH [a, b, c, d, e, f, g, h] = nodeH (nodeH (nodeH (leafH a) (leafH b)) (nodeH (leafH c) (leafH d))) (nodeH (nodeH (leafH e) (leafH f)) (nodeH (leafH g) (leafH h))) := by
  rw [rootBy_more leafH (by simp)]
  have hh : half [a, b, c, d, e, f, g, h].length = 4 := by show half 8 = 4; decide
  rw [hh]
  show nodeH (rootBy leafH [a, b, c, d]) (rootBy leafH [e, f, g, h]) = _
  rw [root4, root4]
theorem root9 (a b c d e f g h i : ByteArray) : rootBy leafH [a, b, c, d, e, f, g, h, i] = nodeH (nodeH (nodeH (nodeH (leafH a) (leafH b)) (nodeH (leafH c) (leafH d))) (nodeH (nodeH (leafH e) (leafH f)) (nodeH (leafH g) (leafH h)))) (leafH i) := by
  rw [rootBy_more leafH (by simp)]
  have hh : half [a, b, c, d, e, f, g, h, i].length = 8 := by show half 9 = 8; decide
  rw [hh]
  show nodeH (rootBy leafH [a, b, c, d, e, f, g, h]) (rootBy leafH [i]) = _
  rw [root8, rootBy_one]
theorem root10 (a b c d e f g h i j : ByteArray) : rootBy leafH [a, b, c, d, e, f, g, h, i, j] = nodeH (nodeH (nodeH (nodeH (leafH a) (leafH b)) (nodeH (leafH c) (leafH d))) (nodeH (nodeH (leafH e) (leafH f)) (nodeH (leafH g) (leafH h)))) (nodeH (leafH i) (leafH j)) := by
  rw [rootBy_more leafH (by simp)]
  have hh : half [a, b, c, d, e, f, g, h, i, j].length = 8 := by show half 10 = 8; decide
  rw [hh]
  show nodeH (rootBy leafH [a, b, c, d, e, f, g, h]) (rootBy leafH [i, j]) = _
  rw [root8, root2]
theorem edge_root : ∀ (l : List ByteArray), 1 ≤ l.length → l.length ≤ 10 → edgeRoot (edgeHs l) = rootBy leafH l
  | [a], _, _ => by
    rw [rootBy_one]
    simp [edgeHs, edgeFrom, edgeStep, carry, edgeRoot, foldEdge]
  | [a, b], _, _ => by
    rw [root2]
    simp [edgeHs, edgeFrom, edgeStep, carry, edgeRoot, foldEdge]
  | [a, b, c], _, _ => by
    rw [root3]
    simp [edgeHs, edgeFrom, edgeStep, carry, edgeRoot, foldEdge]
  | [a, b, c, d], _, _ => by
    rw [root4]
    simp [edgeHs, edgeFrom, edgeStep, carry, edgeRoot, foldEdge]
  | [a, b, c, d, e], _, _ => by
    rw [root5]
    simp [edgeHs, edgeFrom, edgeStep, carry, edgeRoot, foldEdge]
  | [a, b, c, d, e, f], _, _ => by
    rw [root6]
    simp [edgeHs, edgeFrom, edgeStep, carry, edgeRoot, foldEdge]
  | [a, b, c, d, e, f, g], _, _ => by
    rw [root7]
    simp [edgeHs, edgeFrom, edgeStep, carry, edgeRoot, foldEdge]
  | [a, b, c, d, e, f, g, h], _, _ => by
    rw [root8]
    simp [edgeHs, edgeFrom, edgeStep, carry, edgeRoot, foldEdge]
  | [a, b, c, d, e, f, g, h, i], _, _ => by
    rw [root9]
    simp [edgeHs, edgeFrom, edgeStep, carry, edgeRoot, foldEdge]
  | [a, b, c, d, e, f, g, h, i, j], _, _ => by
    rw [root10]
    simp [edgeHs, edgeFrom, edgeStep, carry, edgeRoot, foldEdge]
  | _ :: _ :: _ :: _ :: _ :: _ :: _ :: _ :: _ :: _ :: _ :: _, _, h => by simp at h
  | [], h, _ => by simp at h
end Go.Proofs.Ytnekmofpamnceaa.Q

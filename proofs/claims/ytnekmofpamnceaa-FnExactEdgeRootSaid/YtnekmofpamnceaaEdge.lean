/- Edges: which are right, and the root of one: the program's and the reference's are one. Plain. -/
import Derived.Test.YtnekmofpamnceaaJB3
import Derived.Test.YtnekmofpamnceaaQf31
import Derived.Test.YtnekmofpamnceaaQf90
import Derived.Test.YtnekmofpamnceaaQf32
import Derived.Test.YtnekmofpamnceaaQf50
import Derived.Test.YtnekmofpamnceaaQf117
import Derived.Test.YtnekmofpamnceaaQf76
namespace Go.Proofs.Ytnekmofpamnceaa.Q
open Go.RowKit Go.Proofs.Ytnekmofpamnceaa.B Go.Proofs.YtnekmofpamnceaaW.PrintWords Go.Proofs.YtnekmofpamnceaaW.PrintMore
set_option linter.unusedVariables false
set_option linter.unusedSimpArgs false

/-- The bits of a number below 256. -/
def pops (n : Nat) : Nat := (List.range 8).foldl (fun s i => s + n / 2 ^ i % 2) 0
set_option maxRecDepth 100000 in
theorem bits_both : ∀ n : Fin 201, spec_l7Bits.f 10 (n.1 : Int) = some ((pops n.1 : Nat) : Int) ∧ bits_OnesCount.f (IntKind.u64.wrap (n.1 : Int)) = some ((pops n.1 : Nat) : Int) := by decide +kernel
theorem spec_bits_ev (n : Nat) (h : n ≤ 200) : Ev (fun k => spec_l7Bits.f k (n : Int)) ((pops n : Nat) : Int) := Ev.of (fun k => spec_l7Bits.mono _ k) (bits_both ⟨n, by omega⟩).1
theorem impl_bits_eq (n : Nat) (h : n ≤ 200) : bits_OnesCount.f (IntKind.u64.wrap (n : Int)) = some ((pops n : Nat) : Int) := (bits_both ⟨n, by omega⟩).2
theorem pops_zero : ∀ n : Fin 201, pops n.1 = 0 ↔ n.1 = 0 := by decide +kernel
theorem pops_few : ∀ n : Fin 201, pops n.1 ≤ 8 := by decide +kernel
def all32 (l : List ByteArray) : Bool := l.all fun x => (x.size : Int) == 32
def edgeOk (n : Int) (l : List ByteArray) : Bool := if 0 ≤ n ∧ n ≤ 200 then (if l.length = pops n.toNat then all32 l else false) else false
theorem nextE {i n : Nat} (h : i < n) (hn : n ≤ 9223372036854775807) : wrap64 ((i : Int) + 1) = ((i + 1 : Nat) : Int) := by
  rw [w64 (by omega) (by omega)]
  omega
theorem rdE {l : List ByteArray} {i : Nat} {x : ByteArray} (h : l[i]? = some x) : rdOf ByteArray.empty l (i : Int) = x := rdOf_at h
theorem all32_drop {l : List ByteArray} {i : Nat} {x : ByteArray} (h : l[i]? = some x) : all32 (l.drop i) = (decide ((x.size : Int) = 32) && all32 (l.drop (i + 1))) := by
  rw [drop_one h]
  simp only [all32, List.all_cons]
  congr 1
theorem spec_edge_l0 (n : Int) (l : List ByteArray) (hl : l.length ≤ 9223372036854775807) : ∀ (d i : Nat), i + d = l.length → Ev (fun k => spec_EdgeOk.l0 k (i : Int) n l) (all32 (l.drop i)) := by
  intro d
  induction d with
  | zero =>
    intro i hi
    rw [List.drop_of_length_le (by omega)]
    refine Ev.step (fun k => by simp only [spec_EdgeOk.l0]; rfl) ?_
    exact Ev.neg (by omega) (Ev.now _)
  | succ d ih =>
    intro i hi
    obtain ⟨x, hx⟩ := get_some (l := l) (i := i) (by omega)
    rw [all32_drop hx]
    refine Ev.step (fun k => by simp only [spec_EdgeOk.l0]; rfl) ?_
    rw [rdE hx, nextE (show i < l.length by omega) hl]
    by_cases h : (x.size : Int) = 32
    · rw [decide_eq_true h, Bool.true_and]
      exact Ev.pos (by omega) (Ev.pos (by omega) (Ev.pos h (ih (i + 1) (by omega))))
    · rw [decide_eq_false h, Bool.false_and]
      exact Ev.pos (by omega) (Ev.pos (by omega) (Ev.neg h (Ev.now _)))
theorem impl_edge_l0 (l : List ByteArray) (hl : l.length ≤ 9223372036854775807) : ∀ (d i : Nat), i + d = l.length → Ev (fun k => impl_EdgeOk.l0 k l (l.length : Int) (i : Int)) (all32 (l.drop i)) := by
  intro d
  induction d with
  | zero =>
    intro i hi
    rw [List.drop_of_length_le (by omega)]
    refine Ev.step (fun k => by simp only [impl_EdgeOk.l0]; rfl) ?_
    exact Ev.neg (by omega) (Ev.now _)
  | succ d ih =>
    intro i hi
    obtain ⟨x, hx⟩ := get_some (l := l) (i := i) (by omega)
    rw [all32_drop hx]
    refine Ev.step (fun k => by simp only [impl_EdgeOk.l0]; rfl) ?_
    rw [rdE hx, nextE (show i < l.length by omega) hl]
    by_cases h : (x.size : Int) = 32
    · rw [decide_eq_true h, Bool.true_and]
      exact Ev.pos (by omega) (Ev.pos (by omega) (Ev.pos (by omega) (Ev.pos h (ih (i + 1) (by omega)))))
    · rw [decide_eq_false h, Bool.false_and]
      exact Ev.pos (by omega) (Ev.pos (by omega) (Ev.pos (by omega) (Ev.neg h (Ev.now _))))
theorem ne_false {a b : Nat} (h : a = b) : ((a : Int) != (b : Int)) = false := by
  subst h
  simp
theorem ne_true {a b : Nat} (h : ¬ a = b) : ((a : Int) != (b : Int)) = true := by
  simp
  omega
theorem spec_EdgeOk_ev (n : Int) (l : List ByteArray) (hl : l.length ≤ 9223372036854775807) : Ev (fun k => spec_EdgeOk.f k n l) (edgeOk n l) := by
  unfold spec_EdgeOk.f edgeOk
  by_cases h : 0 ≤ n ∧ n ≤ 200
  · rw [if_pos h]
    obtain ⟨m, rfl⟩ := Int.eq_ofNat_of_zero_le h.1
    refine Ev.bind (Ev.const (spec_in_eq _ _ _)) (Ev.pos (decide_eq_true h) (Ev.bind (spec_bits_ev m (by omega)) ?_))
    rw [show ((m : Nat) : Int).toNat = m from rfl]
    refine Ev.step (fun k => by simp only [spec_EdgeOk.j0]; rfl) ?_
    by_cases hp : l.length = pops m
    · rw [if_pos hp]
      exact Ev.neg (by rw [ne_false hp]; simp) (spec_edge_l0 _ l hl l.length 0 (by omega))
    · rw [if_neg hp]
      exact Ev.pos (ne_true hp) (Ev.now _)
  · rw [if_neg h]
    refine Ev.bind (Ev.const (spec_in_eq _ _ _)) (Ev.neg (by rw [decide_eq_false h]; simp) ?_)
    refine Ev.step (fun k => by simp only [spec_EdgeOk.j0]; rfl) ?_
    exact Ev.pos trivial (Ev.now _)
theorem impl_EdgeOk_ev (n : Int) (l : List ByteArray) (hl : l.length ≤ 9223372036854775807) : Ev (fun k => impl_EdgeOk.f k n l) (edgeOk n l) := by
  unfold impl_EdgeOk.f edgeOk
  by_cases h : 0 ≤ n ∧ n ≤ 200
  · rw [if_pos h]
    obtain ⟨m, rfl⟩ := Int.eq_ofNat_of_zero_le h.1
    refine Ev.bind (Ev.const (impl_in_eq _ _ _)) (Ev.pos (decide_eq_true h) (Ev.bind (Ev.const (impl_bits_eq m (by omega))) ?_))
    rw [show ((m : Nat) : Int).toNat = m from rfl]
    refine Ev.step (fun k => by simp only [impl_EdgeOk.j0]; rfl) ?_
    by_cases hp : l.length = pops m
    · rw [if_pos hp]
      exact Ev.neg (by rw [ne_false hp]; simp) (impl_edge_l0 l hl l.length 0 (by omega))
    · rw [if_neg hp]
      exact Ev.pos (ne_true hp) (Ev.now _)
  · rw [if_neg h]
    refine Ev.bind (Ev.const (impl_in_eq _ _ _)) (Ev.neg (by rw [decide_eq_false h]; simp) ?_)
    refine Ev.step (fun k => by simp only [impl_EdgeOk.j0]; rfl) ?_
    exact Ev.pos trivial (Ev.now _)
/-- The root of an edge's hashes. -/
def foldEdge (l : List ByteArray) (a : ByteArray) : ByteArray := l.foldr nodeH a
def edgeRoot (l : List ByteArray) : ByteArray := match l.getLast? with
  | none => sha []
  | some a => foldEdge l.dropLast a
theorem spec_root_l0 (n : Int) (l : List ByteArray) (hl : l.length ≤ 1048576) (hs : ∀ x ∈ l, x.size ≤ bigB) : ∀ (i : Nat) (a : ByteArray), i ≤ l.length → a.size ≤ bigB → Ev (fun k => spec_EdgeRoot.l0 k a ((i : Int) - 1) n l) (foldEdge (l.take i) a) := by
  intro i
  induction i with
  | zero =>
    intro a hi ha
    refine Ev.step (fun k => by simp only [spec_EdgeRoot.l0]; rfl) ?_
    exact Ev.neg (by omega) (Ev.now _)
  | succ i ih =>
    intro a hi ha
    obtain ⟨x, hx⟩ := get_some (l := l) (i := i) (by omega)
    have hxs := hs x (List.mem_of_getElem? hx)
    have hn := spec_node x a (node_small hxs ha)
    rw [take_one hx]
    have e : foldEdge (l.take i ++ [x]) a = foldEdge (l.take i) (nodeH x a) := by
      unfold foldEdge
      rw [List.foldr_append]
      rfl
    rw [e]
    refine Ev.step (fun k => by simp only [spec_EdgeRoot.l0]; rfl) ?_
    rw [show (((i + 1 : Nat) : Int) - 1) = (i : Int) by omega, rdE hx, w64 (x := (i : Int) - 1) (by omega) (by omega)]
    exact Ev.pos (by omega) (Ev.pos (by omega) (Ev.pos (by omega) (Ev.bind hn (ih (nodeH x a) (by omega) (by rw [nodeH_size]; decide)))))
theorem impl_root_l0 (n : Int) (l : List ByteArray) (hl : l.length ≤ 1048576) (hs : ∀ x ∈ l, x.size ≤ bigB) : ∀ (i : Nat) (a : ByteArray), i ≤ l.length → a.size ≤ bigB → Ev (fun k => impl_EdgeRoot.l0 k ((i : Int) - 1) a n l) (foldEdge (l.take i) a) := by
  intro i
  induction i with
  | zero =>
    intro a hi ha
    refine Ev.step (fun k => by simp only [impl_EdgeRoot.l0]; rfl) ?_
    exact Ev.neg (by omega) (Ev.now _)
  | succ i ih =>
    intro a hi ha
    obtain ⟨x, hx⟩ := get_some (l := l) (i := i) (by omega)
    have hxs := hs x (List.mem_of_getElem? hx)
    have hn := impl_node x a (node_small hxs ha)
    rw [take_one hx]
    have e : foldEdge (l.take i ++ [x]) a = foldEdge (l.take i) (nodeH x a) := by
      unfold foldEdge
      rw [List.foldr_append]
      rfl
    rw [e]
    refine Ev.step (fun k => by simp only [impl_EdgeRoot.l0]; rfl) ?_
    rw [show (((i + 1 : Nat) : Int) - 1) = (i : Int) by omega, rdE hx, w64 (x := (i : Int) - 1) (by omega) (by omega)]
    exact Ev.pos (by omega) (Ev.pos (by omega) (Ev.pos (by omega) (Ev.bind (Ev.const hn) (ih (nodeH x a) (by omega) (by rw [nodeH_size]; decide)))))
def edgeRootOf (n : Int) (l : List ByteArray) : ByteArray := if edgeOk n l = true then edgeRoot l else ⟨#[]⟩
theorem edgeOk_zero {n : Int} {l : List ByteArray} (h : edgeOk n l = true) : (n = 0 ↔ l.length = 0) ∧ l.length ≤ 8 := by
  unfold edgeOk at h
  by_cases hn : 0 ≤ n ∧ n ≤ 200
  · rw [if_pos hn] at h
    by_cases hp : l.length = pops n.toNat
    · have := pops_zero ⟨n.toNat, by omega⟩
      have h8 := pops_few ⟨n.toNat, by omega⟩
      simp only at this h8
      omega
    · rw [if_neg hp] at h
      cases h
  · rw [if_neg hn] at h
    cases h
theorem edgeRoot_last {l : List ByteArray} {x : ByteArray} (h : l[l.length - 1]? = some x) (h1 : 1 ≤ l.length) : edgeRoot l = foldEdge (l.take (l.length - 1)) x := by
  unfold edgeRoot
  rw [List.getLast?_eq_getElem?, h, List.dropLast_eq_take]
theorem spec_EdgeRoot_ev (n : Int) (l : List ByteArray) (hl : l.length ≤ 1048576) (hs : ∀ x ∈ l, x.size ≤ bigB) : Ev (fun k => spec_EdgeRoot.f k n l) (edgeRootOf n l) := by
  unfold spec_EdgeRoot.f edgeRootOf
  refine Ev.bind (spec_EdgeOk_ev n l (by omega)) ?_
  by_cases h : edgeOk n l = true
  · rw [if_pos h]
    obtain ⟨h0, h8⟩ := edgeOk_zero h
    refine Ev.pos h ?_
    by_cases hn : n = 0
    · have hz := List.eq_nil_of_length_eq_zero (h0.1 hn)
      subst hz
      exact Ev.pos hn (Ev.bind (spec_Digest_ev [] (by decide) (by simp)) (Ev.now _))
    · have h1 : 1 ≤ l.length := by omega
      obtain ⟨x, hx⟩ := get_some (l := l) (i := l.length - 1) (by omega)
      rw [edgeRoot_last hx h1, w64 (x := (l.length : Int) - 1) (by omega) (by omega), w64 (x := (l.length : Int) - 2) (by omega) (by omega), show (l.length : Int) - 1 = ((l.length - 1 : Nat) : Int) by omega, rdE hx, show (l.length : Int) - 2 = ((l.length - 1 : Nat) : Int) - 1 by omega]
      exact Ev.neg hn (Ev.pos (by omega) (Ev.pos (by omega) (spec_root_l0 n l hl hs (l.length - 1) x (by omega) (hs x (List.mem_of_getElem? hx)))))
  · rw [if_neg h]
    exact Ev.neg h (Ev.now _)
theorem impl_EdgeRoot_ev (n : Int) (l : List ByteArray) (hl : l.length ≤ 1048576) (hs : ∀ x ∈ l, x.size ≤ bigB) : Ev (fun k => impl_EdgeRoot.f k n l) (edgeRootOf n l) := by
  unfold impl_EdgeRoot.f edgeRootOf
  refine Ev.bind (impl_EdgeOk_ev n l (by omega)) ?_
  by_cases h : edgeOk n l = true
  · rw [if_pos h]
    obtain ⟨h0, h8⟩ := edgeOk_zero h
    refine Ev.pos h ?_
    by_cases hn : n = 0
    · have hz := List.eq_nil_of_length_eq_zero (h0.1 hn)
      subst hz
      exact Ev.pos (by rw [w64 (by simp) (by simp)]; simp) (Ev.bind (Ev.const (impl_Digest_is [] (by decide))) (Ev.now _))
    · have h1 : 1 ≤ l.length := by omega
      obtain ⟨x, hx⟩ := get_some (l := l) (i := l.length - 1) (by omega)
      rw [edgeRoot_last hx h1, w64 (x := (l.length : Int) - 1) (by omega) (by omega), w64 (x := (l.length : Int) - 1 - 1) (by omega) (by omega), show (l.length : Int) - 1 = ((l.length - 1 : Nat) : Int) by omega, rdE hx]
      exact Ev.neg (by omega) (Ev.pos (by omega) (Ev.pos (by omega) (impl_root_l0 n l hl hs (l.length - 1) x (by omega) (hs x (List.mem_of_getElem? hx)))))
  · rw [if_neg h]
    exact Ev.neg h (Ev.now _)
end Go.Proofs.Ytnekmofpamnceaa.Q

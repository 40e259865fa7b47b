/- The root of an edge, as the program tells it. Plain. -/
import Derived.Test.YtnekmofpamnceaaEdge
import Derived.Test.YtnekmofpamnceaaQf32
namespace Go.Proofs.Ytnekmofpamnceaa.Q
open Go.RowKit Go.Proofs.Ytnekmofpamnceaa.B Go.Proofs.YtnekmofpamnceaaW.PrintWords Go.Proofs.YtnekmofpamnceaaW.PrintMore
set_option linter.unusedVariables false
set_option linter.unusedSimpArgs false

/-- The root of an edge's hashes. -/
def foldEdge (l : List ByteArray) (a : ByteArray) : ByteArray := l.foldr nodeH a
def edgeRoot (l : List ByteArray) : ByteArray := match l.getLast? with
  | none => sha []
  | some a => foldEdge l.dropLast a
def edgeRootOf (n : Int) (l : List ByteArray) : ByteArray := if edgeOk n l = true then edgeRoot l else ⟨#[]⟩
theorem edgeOk_zero {n : Int} {l : List ByteArray} (h : edgeOk n l = true) : (n = 0 ↔ l.length = 0) ∧ l.length ≤ 8 := by
  unfold edgeOk at h
  by_cases hn : 0 ≤ n ∧ n ≤ 200
  · rw [if_pos hn] at h
    by_cases hp : l.length = pops n.toNat
    · have := pops_zero ⟨n.toNat, by omega⟩
      have h8 := pops_few ⟨n.toNat, by omega⟩
      simp only at this h8
      omega
    · rw [if_neg hp] at h
      cases h
  · rw [if_neg hn] at h
    cases h
theorem edgeRoot_last {l : List ByteArray} {x : ByteArray} (h : l[l.length - 1]? = some x) (h1 : 1 ≤ l.length) : edgeRoot l = foldEdge (l.take (l.length - 1)) x := by
  unfold edgeRoot
  rw [List.getLast?_eq_getElem?, h, List.dropLast_eq_take]
theorem impl_root_l0 (n : Int) (l : List ByteArray) (hl : l.length ≤ 1048576) (hs : ∀ x ∈ l, x.size ≤ bigB) : ∀ (i : Nat) (a : ByteArray), i ≤ l.length → a.size ≤ bigB → Ev (fun k => impl_EdgeRoot.l0 k ((i : Int) - 1) a n l) (foldEdge (l.take i) a) := by
  intro i
  induction i with
  | zero =>
    intro a hi ha
    refine Ev.step (fun k => by simp only [impl_EdgeRoot.l0]; rfl) ?_
    exact Ev.neg (by omega) (Ev.now _)
  | succ i ih =>
    intro a hi ha
    obtain ⟨x, hx⟩ := get_some (l := l) (i := i) (by omega)
    have hxs := hs x (List.mem_of_getElem? hx)
    have hn := impl_node x a (node_small hxs ha)
    rw [take_one hx]
    have e : foldEdge (l.take i ++ [x]) a = foldEdge (l.take i) (nodeH x a) := by
      unfold foldEdge
      rw [List.foldr_append]
      rfl
    rw [e]
    refine Ev.step (fun k => by simp only [impl_EdgeRoot.l0]; rfl) ?_
    rw [show (((i + 1 : Nat) : Int) - 1) = (i : Int) by omega, rdE hx, w64 (x := (i : Int) - 1) (by omega) (by omega)]
    exact Ev.pos (by omega) (Ev.pos (by omega) (Ev.pos (by omega) (Ev.bind (Ev.const hn) (ih (nodeH x a) (by omega) (by rw [nodeH_size]; decide)))))
theorem impl_EdgeRoot_ev (n : Int) (l : List ByteArray) (hl : l.length ≤ 1048576) (hs : ∀ x ∈ l, x.size ≤ bigB) : Ev (fun k => impl_EdgeRoot.f k n l) (edgeRootOf n l) := by
  unfold impl_EdgeRoot.f edgeRootOf
  refine Ev.bind (impl_EdgeOk_ev n l (by omega)) ?_
  by_cases h : edgeOk n l = true
  · rw [if_pos h]
    obtain ⟨h0, h8⟩ := edgeOk_zero h
    refine Ev.pos h ?_
    by_cases hn : n = 0
    · have hz := List.eq_nil_of_length_eq_zero (h0.1 hn)
      subst hz
      exact Ev.pos (by rw [w64 (by simp) (by simp)]; simp) (Ev.bind (Ev.const (impl_Digest_is [] (by decide))) (Ev.now _))
    · have h1 : 1 ≤ l.length := by omega
      obtain ⟨x, hx⟩ := get_some (l := l) (i := l.length - 1) (by omega)
      rw [edgeRoot_last hx h1, w64 (x := (l.length : Int) - 1) (by omega) (by omega), w64 (x := (l.length : Int) - 1 - 1) (by omega) (by omega), show (l.length : Int) - 1 = ((l.length - 1 : Nat) : Int) by omega, rdE hx]
      exact Ev.neg (by omega) (Ev.pos (by omega) (Ev.pos (by omega) (impl_root_l0 n l hl hs (l.length - 1) x (by omega) (hs x (List.mem_of_getElem? hx)))))
  · rw [if_neg h]
    exact Ev.neg h (Ev.now _)
end Go.Proofs.Ytnekmofpamnceaa.Q

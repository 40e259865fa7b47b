/- Edges: which are right: the program's and the reference's answers are one. Plain. -/
import Derived.Test.YtnekmofpamnceaaJB3
import Derived.Test.YtnekmofpamnceaaQf31
import Derived.Test.YtnekmofpamnceaaQf90
import Derived.Test.YtnekmofpamnceaaQf117
import Derived.Test.YtnekmofpamnceaaQf76
namespace Go.Proofs.Ytnekmofpamnceaa.Q
open Go.RowKit Go.Proofs.Ytnekmofpamnceaa.B Go.Proofs.YtnekmofpamnceaaW.PrintWords Go.Proofs.YtnekmofpamnceaaW.PrintMore
set_option linter.unusedVariables false
set_option linter.unusedSimpArgs false

/-- The bits of a number below 256. -/
def pops (n : Nat) : Nat := (List.range 8).foldl (fun s i => s + n / 2 ^ i % 2) 0
set_option maxRecDepth 100000 in
theorem bits_both : ∀ n : Fin 201, spec_l7Bits.f 10 (n.1 : Int) = some ((pops n.1 : Nat) : Int) ∧ bits_OnesCount.f (IntKind.u64.wrap (n.1 : Int)) = some ((pops n.1 : Nat) : Int) := by decide +kernel
theorem spec_bits_ev (n : Nat) (h : n ≤ 200) : Ev (fun k => spec_l7Bits.f k (n : Int)) ((pops n : Nat) : Int) := Ev.of (fun k => spec_l7Bits.mono _ k) (bits_both ⟨n, by omega⟩).1
theorem impl_bits_eq (n : Nat) (h : n ≤ 200) : bits_OnesCount.f (IntKind.u64.wrap (n : Int)) = some ((pops n : Nat) : Int) := (bits_both ⟨n, by omega⟩).2
theorem pops_zero : ∀ n : Fin 201, pops n.1 = 0 ↔ n.1 = 0 := by decide +kernel
theorem pops_few : ∀ n : Fin 201, pops n.1 ≤ 8 := by decide +kernel
def all32 (l : List ByteArray) : Bool := l.all fun x => (x.size : Int) == 32
def edgeOk (n : Int) (l : List ByteArray) : Bool := if 0 ≤ n ∧ n ≤ 200 then (if l.length = pops n.toNat then all32 l else false) else false
theorem nextE {i n : Nat} (h : i < n) (hn : n ≤ 9223372036854775807) : wrap64 ((i : Int) + 1) = ((i + 1 : Nat) : Int) := by
  rw [w64 (by omega) (by omega)]
  omega
theorem rdE {l : List ByteArray} {i : Nat} {x : ByteArray} (h : l[i]? = some x) : rdOf ByteArray.empty l (i : Int) = x := rdOf_at h
theorem all32_drop {l : List ByteArray} {i : Nat} {x : ByteArray} (h : l[i]? = some x) : all32 (l.drop i) = (decide ((x.size : Int) = 32) && all32 (l.drop (i + 1))) := by
  rw [drop_one h]
  simp only [all32, List.all_cons]
  congr 1
theorem spec_edge_l0 (n : Int) (l : List ByteArray) (hl : l.length ≤ 9223372036854775807) : ∀ (d i : Nat), i + d = l.length → Ev (fun k => spec_EdgeOk.l0 k (i : Int) n l) (all32 (l.drop i)) := by
  intro d
  induction d with
  | zero =>
    intro i hi
    rw [List.drop_of_length_le (by omega)]
    refine Ev.step (fun k => by simp only [spec_EdgeOk.l0]; rfl) ?_
    exact Ev.neg (by omega) (Ev.now _)
  | succ d ih =>
    intro i hi
    obtain ⟨x, hx⟩ := get_some (l := l) (i := i) (by omega)
    rw [all32_drop hx]
    refine Ev.step (fun k => by simp only [spec_EdgeOk.l0]; rfl) ?_
    rw [rdE hx, nextE (show i < l.length by omega) hl]
    by_cases h : (x.size : Int) = 32
    · rw [decide_eq_true h, Bool.true_and]
      exact Ev.pos (by omega) (Ev.pos (by omega) (Ev.pos h (ih (i + 1) (by omega))))
    · rw [decide_eq_false h, Bool.false_and]
      exact Ev.pos (by omega) (Ev.pos (by omega) (Ev.neg h (Ev.now _)))
theorem impl_edge_l0 (l : List ByteArray) (hl : l.length ≤ 9223372036854775807) : ∀ (d i : Nat), i + d = l.length → Ev (fun k => impl_EdgeOk.l0 k l (l.length : Int) (i : Int)) (all32 (l.drop i)) := by
  intro d
  induction d with
  | zero =>
    intro i hi
    rw [List.drop_of_length_le (by omega)]
    refine Ev.step (fun k => by simp only [impl_EdgeOk.l0]; rfl) ?_
    exact Ev.neg (by omega) (Ev.now _)
  | succ d ih =>
    intro i hi
    obtain ⟨x, hx⟩ := get_some (l := l) (i := i) (by omega)
    rw [all32_drop hx]
    refine Ev.step (fun k => by simp only [impl_EdgeOk.l0]; rfl) ?_
    rw [rdE hx, nextE (show i < l.length by omega) hl]
    by_cases h : (x.size : Int) = 32
    · rw [decide_eq_true h, Bool.true_and]
      exact Ev.pos (by omega) (Ev.pos (by omega) (Ev.pos (by omega) (Ev.pos h (ih (i + 1) (by omega)))))
    · rw [decide_eq_false h, Bool.false_and]
      exact Ev.pos (by omega) (Ev.pos (by omega) (Ev.pos (by omega) (Ev.neg h (Ev.now _))))
theorem ne_false {a b : Nat} (h : a = b) : ((a : Int) != (b : Int)) = false := by
  subst h
  simp
theorem ne_true {a b : Nat} (h : ¬ a = b) : ((a : Int) != (b : Int)) = true := by
  simp
  omega
theorem spec_EdgeOk_ev (n : Int) (l : List ByteArray) (hl : l.length ≤ 9223372036854775807) : Ev (fun k => spec_EdgeOk.f k n l) (edgeOk n l) := by
  unfold spec_EdgeOk.f edgeOk
  by_cases h : 0 ≤ n ∧ n ≤ 200
  · rw [if_pos h]
    obtain ⟨m, rfl⟩ := Int.eq_ofNat_of_zero_le h.1
    refine Ev.bind (Ev.const (spec_in_eq _ _ _)) (Ev.pos (decide_eq_true h) (Ev.bind (spec_bits_ev m (by omega)) ?_))
    rw [show ((m : Nat) : Int).toNat = m from rfl]
    refine Ev.step (fun k => by simp only [spec_EdgeOk.j0]; rfl) ?_
    by_cases hp : l.length = pops m
    · rw [if_pos hp]
      exact Ev.neg (by rw [ne_false hp]; simp) (spec_edge_l0 _ l hl l.length 0 (by omega))
    · rw [if_neg hp]
      exact Ev.pos (ne_true hp) (Ev.now _)
  · rw [if_neg h]
    refine Ev.bind (Ev.const (spec_in_eq _ _ _)) (Ev.neg (by rw [decide_eq_false h]; simp) ?_)
    refine Ev.step (fun k => by simp only [spec_EdgeOk.j0]; rfl) ?_
    exact Ev.pos trivial (Ev.now _)
theorem impl_EdgeOk_ev (n : Int) (l : List ByteArray) (hl : l.length ≤ 9223372036854775807) : Ev (fun k => impl_EdgeOk.f k n l) (edgeOk n l) := by
  unfold impl_EdgeOk.f edgeOk
  by_cases h : 0 ≤ n ∧ n ≤ 200
  · rw [if_pos h]
    obtain ⟨m, rfl⟩ := Int.eq_ofNat_of_zero_le h.1
    refine Ev.bind (Ev.const (impl_in_eq _ _ _)) (Ev.pos (decide_eq_true h) (Ev.bind (Ev.const (impl_bits_eq m (by omega))) ?_))
    rw [show ((m : Nat) : Int).toNat = m from rfl]
    refine Ev.step (fun k => by simp only [impl_EdgeOk.j0]; rfl) ?_
    by_cases hp : l.length = pops m
    · rw [if_pos hp]
      exact Ev.neg (by rw [ne_false hp]; simp) (impl_edge_l0 l hl l.length 0 (by omega))
    · rw [if_neg hp]
      exact Ev.pos (ne_true hp) (Ev.now _)
  · rw [if_neg h]
    refine Ev.bind (Ev.const (impl_in_eq _ _ _)) (Ev.neg (by rw [decide_eq_false h]; simp) ?_)
    refine Ev.step (fun k => by simp only [impl_EdgeOk.j0]; rfl) ?_
    exact Ev.pos trivial (Ev.now _)
end Go.Proofs.Ytnekmofpamnceaa.Q

/- The reference's edges of lists. Plain. -/
import Derived.Test.YtnekmofpamnceaaEdgeP
import Derived.Test.YtnekmofpamnceaaQf68
import Derived.Test.YtnekmofpamnceaaQf21
namespace Go.Proofs.Ytnekmofpamnceaa.Q
open Go.RowKit Go.Proofs.Ytnekmofpamnceaa.B Go.Proofs.YtnekmofpamnceaaW.PrintWords Go.Proofs.YtnekmofpamnceaaW.PrintMore
set_option linter.unusedVariables false
set_option linter.unusedSimpArgs false

theorem pops_300 {n : Nat} (h : n ≤ 255) : pops n ≤ 300 := by
  have : ∀ n : Fin 256, pops n.1 ≤ 300 := by decide +kernel
  exact this ⟨n, by omega⟩
theorem spec_carry : ∀ (k n : Nat) (hs : List ByteArray) (h : ByteArray), n < 2 ^ k → n ≤ 255 → hs.length = pops n → (∀ x ∈ hs, x.size = 32) → h.size = 32 → ∀ (n0 : Int) (hs0 : List ByteArray),
    Ev (fun q => spec_l7Add.l0 q h hs (n : Int) n0 hs0) (wrap64 (n0 + 1), carry k n hs h) := by
  intro k
  induction k with
  | zero =>
    intro n hs h hn h2 hl hx hh n0 hs0
    obtain rfl : n = 0 := by omega
    have := pops_300 h2
    refine Ev.step (fun q => by simp only [spec_l7Add.l0]; rfl) ?_
    rw [bit1 (by omega)]
    exact Ev.neg (by omega) (Ev.pos (by omega) (Ev.now _))
  | succ k ih =>
    intro n hs h hn h2 hl hx hh n0 hs0
    have p1 := pop_half (n := n) h2
    have p3 := pops_300 h2
    rw [Nat.pow_succ] at hn
    refine Ev.step (fun q => by simp only [spec_l7Add.l0]; rfl) ?_
    rw [bit1 h2]
    by_cases ho : n % 2 = 1
    · have hl1 : 1 ≤ hs.length := by omega
      have hw : wrap64 ((hs.length : Int) - 1) = ((hs.length - 1 : Nat) : Int) := by
        rw [w64 (by omega) (by omega)]
        omega
      have hg := getLastD_mem hl1
      have hg32 := hx _ (List.mem_of_getElem? hg)
      have hnd := spec_node (hs.getLastD ByteArray.empty) h (by omega)
      have e := ih (n / 2) hs.dropLast (nodeH (hs.getLastD ByteArray.empty) h) (by omega) (by omega) (by rw [List.length_dropLast]; omega) (fun y hy => hx y ((List.dropLast_sublist _).subset hy)) (nodeH_size _ _) n0 hs0
      have e2 : (n : Int) / 2 = ((n / 2 : Nat) : Int) := by omega
      have e3 : hs.take ((hs.length - 1 : Nat) : Int).toNat = hs.dropLast := by rw [Int.toNat_natCast, List.dropLast_eq_take]
      simp only [carry]
      rw [if_pos ho, hw, rdOf_at hg, e2, e3]
      exact Ev.pos (by omega) (Ev.pos (by omega) (Ev.pos (by omega) (Ev.bind hnd (Ev.pos (by omega) e))))
    · simp only [carry]
      rw [if_neg ho]
      exact Ev.neg (by omega) (Ev.pos (by omega) (Ev.now _))
theorem spec_l7Add_ev (n : Nat) (hs : List ByteArray) (s : ByteArray) (hn : n ≤ 200) (hl : hs.length = pops n) (hx : ∀ x ∈ hs, x.size = 32) (hs2 : s.size ≤ 1048700) : Ev (fun k => spec_l7Add.f k (n : Int) hs s) (((n + 1 : Nat) : Int), carry 8 n hs (leafH s)) := by
  have := pops_300 (n := n) (by omega)
  unfold spec_l7Add.f
  refine Ev.bind (spec_leaf s (by omega)) (Ev.bind (Ev.now _) ?_)
  simp only [List.nil_append, List.length_nil]
  refine Ev.pos (by omega) ?_
  have e := spec_carry 8 n hs (leafH s) (by omega) (by omega) hl hx (leafH_size s) (n : Int) hs
  rw [w64 (by omega) (by omega)] at e
  exact e
theorem spec_EdgeOf_ev (l : List ByteArray) (hs : ∀ x ∈ l, x.size ≤ 1048700) (hl : l.length ≤ 1048576) : Ev (fun k => spec_EdgeOf.f k l) (edgeOf l) := by
  unfold spec_EdgeOf.f edgeOf
  by_cases h : (l.length : Int) > 200
  · rw [if_pos h]
    refine Ev.step (fun k => by simp only [spec_EdgeOf.l0]; rfl) ?_
    exact Ev.pos (by omega) (Ev.neg (by omega) (Ev.now _))
  · rw [if_neg h]
    have main : ∀ (d i : Nat) (e : Nat × List ByteArray), i + d = l.length → e.1 = i → e.2.length = pops e.1 → (∀ x ∈ e.2, x.size = 32) → Ev (fun k => spec_EdgeOf.l0 k l (i : Int) (e.1 : Int) e.2) (((edgeFrom e (l.drop i)).1 : Int), (edgeFrom e (l.drop i)).2) := by
      intro d
      induction d with
      | zero =>
        intro i e hi he h2 h3
        rw [List.drop_of_length_le (by omega)]
        refine Ev.step (fun k => by simp only [spec_EdgeOf.l0]; rfl) ?_
        exact Ev.neg (by omega) (Ev.now _)
      | succ d ih =>
        intro i e hi he h2 h3
        obtain ⟨x, hx⟩ := get_some (l := l) (i := i) (by omega)
        have e1 := spec_l7Add_ev e.1 e.2 x (by omega) h2 h3 (hs x (List.mem_of_getElem? hx))
        have e2 := ih (i + 1) (edgeStep e x) (by omega) (by simp only [edgeStep]; omega) (carry_length 8 e.1 e.2 (leafH x) (by omega) (by omega) h2) (carry_32 8 e.1 e.2 (leafH x) h3 (leafH_size x))
        rw [drop_one hx]
        refine Ev.step (fun k => by simp only [spec_EdgeOf.l0]; rfl) ?_
        rw [rdOf_at hx, w64 (x := (i : Int) + 1) (by omega) (by omega), show (i : Int) + 1 = ((i + 1 : Nat) : Int) by omega]
        exact Ev.pos (by omega) (Ev.pos (by omega) (Ev.pos (by omega) (Ev.bind e1 e2)))
    have e := main l.length 0 (0, []) (by omega) rfl (by simp only [List.length_nil]; decide) (by simp)
    obtain ⟨p, _, _⟩ := edgeFrom_inv l (0, []) (by simp only; omega) (by simp only [List.length_nil]; decide) (by simp)
    rw [List.drop_zero, p] at e
    simp only [Nat.zero_add] at e
    exact e
theorem edgeOf_small (l : List ByteArray) : (edgeOf l).2.length ≤ 300 := by
  unfold edgeOf
  by_cases h : (l.length : Int) > 200
  · rw [if_pos h]
    simp
  · rw [if_neg h, (edgeHs_inv l (by omega)).1]
    exact pops_300 (by omega)
end Go.Proofs.Ytnekmofpamnceaa.Q

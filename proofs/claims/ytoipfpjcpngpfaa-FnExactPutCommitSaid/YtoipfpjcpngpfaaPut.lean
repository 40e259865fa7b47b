/- Numbers and texts put behind bytes: the program's and the reference's are one. Plain. -/
import Derived.Test.YtoipfpjcpngpfaaJB3
import Derived.Test.YtoipfpjcpngpfaaQf87
import Derived.Test.YtoipfpjcpngpfaaQf91
import Derived.Test.YtoipfpjcpngpfaaQf89
import Derived.Test.YtoipfpjcpngpfaaQf93
import Derived.Test.YtoipfpjcpngpfaaQf88
import Derived.Test.YtoipfpjcpngpfaaQf92
namespace Go.Proofs.Ytoipfpjcpngpfaa.Q
open Go.RowKit Go.Proofs.Ytoipfpjcpngpfaa.B Go.Proofs.YtoipfpjcpngpfaaW.PrintWords Go.Proofs.YtoipfpjcpngpfaaW.PrintMore
set_option linter.unusedVariables false
set_option linter.unusedSimpArgs false

theorem or_swap (a b : Int) : Go.bits .or .i64 a b = Go.bits .or .i64 b a := by
  have e : ∀ x y : Int, Go.bits .or .i64 x y = IntKind.i64.wrap ((BitVec.ofInt 64 x ||| BitVec.ofInt 64 y).toNat : Int) := fun x y => rfl
  rw [e, e, BitVec.or_comm]
/-- Bytes. -/
def InB (l : List Int) : Prop := ∀ x ∈ l, 0 ≤ x ∧ x ≤ 255
theorem inB_nil : InB [] := fun x hx => by simp at hx
theorem inB_app {a b : List Int} (ha : InB a) (hb : InB b) : InB (a ++ b) := fun x hx => by
  rcases List.mem_append.1 hx with hx | hx
  · exact ha x hx
  · exact hb x hx
theorem inB_one (y : Int) : InB [y % 256] := fun x hx => by
  rw [List.mem_singleton.1 hx]
  omega
theorem inB_text (s : ByteArray) : InB (bytesOf s) := fun x hx => bytesOf_range s x hx
theorem num_l0 : ∀ (k : Nat) (x : Int) (acc : List Int), 0 ≤ x → x < 128 ^ (k + 1) → acc.length + k ≤ 1099511627776 → InB acc →
    ∃ r, Ev (fun q => spec_PutNum.l0 q x acc) r ∧ Ev (fun q => impl_putNum.l0 q acc x) r ∧ r.length ≤ acc.length + k + 1 ∧ InB r := by
  intro k
  induction k with
  | zero =>
    intro x acc h0 h1 h2 h3
    refine ⟨acc ++ [x % 256], ?_, ?_, by simp, inB_app h3 (inB_one x)⟩
    · refine Ev.step (fun q => by simp only [spec_PutNum.l0]; rfl) ?_
      exact Ev.neg (by omega) (Ev.pos (by omega) (Ev.now _))
    · refine Ev.step (fun q => by simp only [impl_putNum.l0]; rfl) ?_
      exact Ev.neg (by omega) (Ev.pos (by omega) (Ev.now _))
  | succ k ih =>
    intro x acc h0 h1 h2 h3
    by_cases hx : x > 127
    · have hp : (128 : Int) ^ (k + 1 + 1) = 128 ^ (k + 1) * 128 := Int.pow_succ _ _
      obtain ⟨r, e1, e2, hl, hr⟩ := ih (x / 128) (acc ++ [(Go.bits .or .i64 (Go.bits .and .i64 x 127) 128) % 256]) (by omega) (by omega) (by simp; omega) (inB_app h3 (inB_one _))
      refine ⟨r, ?_, ?_, by simp at hl; omega, hr⟩
      · refine Ev.step (fun q => by simp only [spec_PutNum.l0]; rfl) ?_
        exact Ev.pos hx (Ev.pos (by omega) e1)
      · refine Ev.step (fun q => by simp only [impl_putNum.l0]; rfl) ?_
        rw [or_swap]
        exact Ev.pos hx (Ev.pos (by omega) e2)
    · refine ⟨acc ++ [x % 256], ?_, ?_, by simp, inB_app h3 (inB_one x)⟩
      · refine Ev.step (fun q => by simp only [spec_PutNum.l0]; rfl) ?_
        exact Ev.neg hx (Ev.pos (by omega) (Ev.now _))
      · refine Ev.step (fun q => by simp only [impl_putNum.l0]; rfl) ?_
        exact Ev.neg hx (Ev.pos (by omega) (Ev.now _))
theorem putNum_both (l : List Int) (n : Int) (hl : l.length ≤ 1099511627000) (hb : InB l) : ∃ r, Ev (fun q => spec_PutNum.f q l n) r ∧ Ev (fun q => impl_putNum.f q l n) r ∧ r.length ≤ l.length + 10 ∧ InB r := by
  have hm : mx 0 (mn n 1000000000) = max 0 (min n 1000000000) := by
    unfold mx mn
    by_cases h : 1000000000 < n
    · rw [if_pos h]
      by_cases h2 : (0 : Int) < 1000000000
      · rw [if_pos h2]
        omega
      · omega
    · rw [if_neg h]
      by_cases h2 : 0 < n
      · rw [if_pos h2]
        omega
      · rw [if_neg h2]
        omega
  obtain ⟨r, e1, e2, h3, h4⟩ := num_l0 5 (max 0 (min n 1000000000)) l (by omega) (by omega) (by omega) hb
  refine ⟨r, ?_, ?_, by omega, h4⟩
  · unfold spec_PutNum.f
    refine Ev.bind (Ev.now _) ?_
    simp only [List.nil_append, List.length_nil]
    refine Ev.pos (by omega) (Ev.bind (Ev.now _) ?_)
    have j1 : ∀ x : Int, x = max 0 (min n 1000000000) → Ev (fun q => spec_PutNum.j1 q x l) r := fun x hx => by
      subst hx
      refine Ev.step (fun q => by simp only [spec_PutNum.j1]; rfl) ?_
      exact e1
    have j0 : ∀ x : Int, max 0 x = max 0 (min n 1000000000) → Ev (fun q => spec_PutNum.j0 q x l) r := fun x hx => by
      refine Ev.step (fun q => by simp only [spec_PutNum.j0]; rfl) ?_
      by_cases h0 : x < 0
      · exact Ev.pos h0 (j1 0 (by omega))
      · exact Ev.neg h0 (j1 x (by omega))
    by_cases h1 : n > 1000000000
    · exact Ev.pos h1 (j0 1000000000 (by omega))
    · exact Ev.neg h1 (j0 n (by omega))
  · unfold impl_putNum.f
    rw [hm]
    exact e2
theorem putText_both (l : List Int) (s : ByteArray) (hl : l.length + s.size ≤ 1099511626000) (hb : InB l) : ∃ r, Ev (fun q => spec_PutText.f q l s) r ∧ Ev (fun q => impl_putText.f q l s) r ∧ r.length ≤ l.length + 10 + s.size ∧ InB r := by
  obtain ⟨r, e1, e2, h3, h4⟩ := putNum_both l (s.size : Int) (by omega) hb
  refine ⟨r ++ bytesOf s, ?_, ?_, by rw [List.length_append, bytesOf_length]; omega, inB_app h4 (inB_text s)⟩
  · unfold spec_PutText.f
    exact Ev.bind e1 (Ev.pos (by omega) (Ev.now _))
  · unfold impl_putText.f
    exact Ev.bind e2 (Ev.pos (by omega) (Ev.now _))
set_option maxHeartbeats 1000000 in
theorem putTexts_both (l : List Int) (t : List ByteArray) (hl : (l.length : Int) + 10 * t.length + total t ≤ 1099511620000) (hb : InB l) :
    ∃ r, Ev (fun q => spec_PutTexts.f q l t) r ∧ Ev (fun q => impl_putTexts.f q l t) r ∧ (r.length : Int) ≤ l.length + 10 + 10 * t.length + total t ∧ InB r := by
  have ht := total_nonneg t
  obtain ⟨r, e1, e2, h3, h4⟩ := putNum_both l (t.length : Int) (by omega) hb
  have main : ∀ (d i : Nat) (acc : List Int), i + d = t.length → (acc.length : Int) + 10 * d + total (t.drop i) ≤ 1099511621000 → InB acc → ∃ r, Ev (fun q => spec_PutTexts.l0 q t acc (i : Int)) r ∧ Ev (fun q => impl_putTexts.l0 q acc t (t.length : Int) (i : Int)) r ∧ (r.length : Int) ≤ acc.length + 10 * d + total (t.drop i) ∧ InB r := by
    intro d
    induction d with
    | zero =>
      intro i acc hi ha hbb
      refine ⟨acc, ?_, ?_, ?_, hbb⟩
      · refine Ev.step (fun q => by simp only [spec_PutTexts.l0]; rfl) ?_
        exact Ev.neg (by omega) (Ev.now _)
      · refine Ev.step (fun q => by simp only [impl_putTexts.l0]; rfl) ?_
        exact Ev.neg (by omega) (Ev.now _)
      · have := total_nonneg (t.drop i)
        omega
    | succ d ih =>
      intro i acc hi ha hbb
      have hi1 : i < t.length := by
        clear ha ht h3 hl
        omega
      have hI : (i : Int) < (t.length : Int) := Int.ofNat_lt.2 hi1
      have hI0 : (0 : Int) ≤ (i : Int) := Int.natCast_nonneg i
      obtain ⟨x, hx⟩ := get_some (l := t) (i := i) hi1
      have hd := drop_one hx
      have h0 := total_nonneg (t.drop (i + 1))
      rw [hd, total_cons] at ha ⊢
      obtain ⟨r, e1, e2, h3, h4⟩ := putText_both acc x (by omega) hbb
      obtain ⟨r2, f1, f2, f3, f4⟩ := ih (i + 1) r (by omega) (by omega) h4
      have hT : t.length ≤ 4611686018427387904 := by
        clear h3 ha f3
        omega
      have nx : wrap64 ((i : Int) + 1) = ((i + 1 : Nat) : Int) := by
        clear ha ht h3 hl f3
        rw [w64 (by omega) (by omega)]
        omega
      refine ⟨r2, ?_, ?_, by omega, f4⟩
      · refine Ev.step (fun q => by simp only [spec_PutTexts.l0]; rfl) ?_
        rw [rdOf_at hx, nx]
        refine Ev.pos hI (Ev.pos hI0 ?_)
        exact Ev.bind (f := fun q z => spec_PutTexts.l0 q t z ((i + 1 : Nat) : Int)) e1 f1
      · refine Ev.step (fun q => by simp only [impl_putTexts.l0]; rfl) ?_
        rw [rdOf_at hx, nx]
        refine Ev.pos hI (Ev.pos hI0 (Ev.pos hI ?_))
        exact Ev.bind (f := fun q z => impl_putTexts.l0 q z t (t.length : Int) ((i + 1 : Nat) : Int)) e2 f2
  obtain ⟨r2, f1, f2, f3, f4⟩ := main t.length 0 r (by omega) (by rw [List.drop_zero]; omega) h4
  rw [List.drop_zero] at f3
  refine ⟨r2, ?_, ?_, by omega, f4⟩
  · unfold spec_PutTexts.f
    exact Ev.bind e1 f1
  · unfold impl_putTexts.f
    exact Ev.bind e2 f2
end Go.Proofs.Ytoipfpjcpngpfaa.Q

/- What the laws' own helpers do with lists of bytes: a list equals itself, marks put and found again. -/
import Derived.Test.YtoipfpjcpngpfaaJB3
import Derived.Test.YtoipfpjcpngpfaaQf19
import Derived.Test.YtoipfpjcpngpfaaQf22
import Derived.Test.YtoipfpjcpngpfaaQf23
namespace Go.Proofs.Ytoipfpjcpngpfaa.Q
open Go.RowKit Go.Proofs.Ytoipfpjcpngpfaa.B Go.Proofs.YtoipfpjcpngpfaaW.PrintWords
set_option linter.unusedVariables false
set_option linter.unusedSimpArgs false

theorem nextB {i n : Nat} (h : i < n) (hn : n ≤ 9223372036854775807) : wrap64 ((i : Int) + 1) = ((i + 1 : Nat) : Int) := by
  rw [w64 (by omega) (by omega)]
  omega
theorem eqByteS_ev (l : List Int) (hl : l.length ≤ 9223372036854775807) : Ev (fun k => laws_eqByteS.f k l l) true := by
  have main : ∀ (d i : Nat), i + d = l.length → Ev (fun k => laws_eqByteS.l0 k l l (i : Int)) true := by
    intro d
    induction d with
    | zero =>
      intro i hi
      refine Ev.step (f := fun _ => some true) (fun k => ?_) (Ev.now _)
      simp only [laws_eqByteS.l0]
      rw [if_neg (by omega)]
    | succ d ih =>
      intro i hi
      refine Ev.step (fun k => ?_) (ih (i + 1) (by omega))
      simp only [laws_eqByteS.l0]
      rw [if_pos (by omega), if_pos (by omega), if_pos (by omega), if_pos trivial, nextB (show i < l.length by omega) hl]
  refine Ev.congr (fun k => ?_) (main l.length 0 (by omega))
  unfold laws_eqByteS.f
  rw [if_pos rfl]
  rfl
/-- Marks: numbers from a on, as bytes. -/
def markB (a : Int) (n : Nat) : List Int := (List.range n).map fun (i : Nat) => (a + (i : Int)) % 256
theorem markB_length (a : Int) (n : Nat) : (markB a n).length = n := by simp [markB]
theorem markB_succ (a : Int) (n : Nat) : markB a (n + 1) = markB a n ++ [(a + (n : Int)) % 256] := by
  unfold markB
  rw [List.range_succ, List.map_append]
  rfl
theorem markB_get (a : Int) (n i : Nat) (h : i < n) : (markB a n)[i]? = some ((a + (i : Int)) % 256) := by
  unfold markB
  rw [List.getElem?_map, List.getElem?_range h]
  rfl
theorem markByteS_ev (l : List Int) (a : Int) (h0 : 0 ≤ a) (h1 : a + l.length ≤ 4611686018427387904) : Ev (fun k => laws_markByteS.f k l a) (a + (l.length : Int), markB a l.length) := by
  have main : ∀ (d i : Nat) (acc : List Int), i + d = l.length → acc.length = l.length → acc.take i = markB a i → Ev (fun k => laws_markByteS.l0 k acc (a + (i : Int)) (i : Int)) (a + (l.length : Int), markB a l.length) := by
    intro d
    induction d with
    | zero =>
      intro i acc hi ha ht
      have hil : i = l.length := by omega
      subst hil
      rw [List.take_of_length_le (by omega)] at ht
      subst ht
      refine Ev.step (f := fun _ => some (a + (l.length : Int), markB a l.length)) (fun k => ?_) (Ev.now _)
      simp only [laws_markByteS.l0]
      rw [if_neg (by omega)]
    | succ d ih =>
      intro i acc hi ha ht
      refine Ev.step (fun k => ?_) (ih (i + 1) (acc.set i ((a + (i : Int)) % 256)) (by omega) (by simp [ha]) ?_)
      · simp only [laws_markByteS.l0]
        rw [if_pos (by omega), if_pos (by omega), nextB (show i < l.length by omega) (by omega), w64 (x := a + (i : Int) + 1) (by omega) (by omega)]
        have e : a + (i : Int) + 1 = a + ((i + 1 : Nat) : Int) := by omega
        rw [e]
        rfl
      · rw [set_take _ (by omega), ht, markB_succ]
  refine Ev.congr (fun k => ?_) (main l.length 0 l (by omega) rfl (by simp [markB]))
  unfold laws_markByteS.f
  congr 1
  omega
theorem heldByteS_ev (n : Nat) (a : Int) (h0 : 0 ≤ a) (h1 : a + n ≤ 4611686018427387904) : Ev (fun k => laws_heldByteS.f k (markB a n) a) (a + (n : Int)) := by
  have main : ∀ (d i : Nat), i + d = n → Ev (fun k => laws_heldByteS.l0 k (markB a n) (a + (i : Int)) (i : Int)) (a + (n : Int)) := by
    intro d
    induction d with
    | zero =>
      intro i hi
      have hil : i = n := by omega
      subst hil
      refine Ev.step (f := fun _ => some (a + (i : Int))) (fun k => ?_) (Ev.now _)
      simp only [laws_heldByteS.l0]
      rw [if_neg (by rw [markB_length]; omega)]
    | succ d ih =>
      intro i hi
      refine Ev.step (fun k => ?_) (ih (i + 1) (by omega))
      simp only [laws_heldByteS.l0]
      rw [if_pos (by rw [markB_length]; omega), if_pos (by omega), rd_at (markB_get a n i (by omega)), if_pos rfl, nextB (show i < n by omega) (by omega), w64 (x := a + (i : Int) + 1) (by omega) (by omega)]
      congr 1
      omega
  refine Ev.congr (fun k => ?_) (main n 0 (by omega))
  unfold laws_heldByteS.f
  congr 1
  omega
end Go.Proofs.Ytoipfpjcpngpfaa.Q

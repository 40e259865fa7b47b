/- Which Lean values the laws' arguments are opened to: each struct type by its fields. -/
import Derived.Test.YtnekmofpamnceaaOpen
import Derived.Test.YtnekmofpamnceaaJB3
namespace Go.Proofs.Ytnekmofpamnceaa.Q
open Go.RowKit Go.Proofs.Ytnekmofpamnceaa.XO Go.Proofs.YtnekmofpamnceaaW.PrintWords Go.ChangeShapes Go.WideShapes
set_option linter.unusedVariables false
set_option linter.unusedSimpArgs false
theorem opens_bool {P : Program} {t : TypeId} (ht : P.underlying t = some .bool) : Opens P Kd.bool t (fun _ => True) := by
  intro H enc w base spare held fuel cs x h
  obtain ⟨n, rfl, _⟩ := DataW.trod_bool ht h
  exact ⟨n, rfl, trivial⟩
def G52 (x : S52) : Prop := (Lit.int .i64 x.f0).wf = true ∧ x.f1.size ≤ 9223372036854775807
theorem opens52 : Opens Try.prog k52 52 G52 := by
  intro H enc w base spare held fuel cs x h
  obtain ⟨xs, n, _, _, hl, hlen, hf⟩ := DataW.trod_struct Try.underlying52 h
  replace hl : cs.length = 2 := hl.trans (by kernel_rfl)
  replace hlen : xs.length = 2 := hlen
  obtain ⟨y0, e0⟩ := get_cells hlen 0 (by decide)
  have h0 : DataW.trod enc Try.prog w base spare held n 3 ((cs.drop 0).take (Try.prog.cellsOf 3)) = some y0 := (hf 0 _ rfl).trans e0
  rw [show Try.prog.cellsOf 3 = 1 from by kernel_rfl] at h0
  obtain ⟨a0, k0_, g0⟩ := (opens_int Try.underlying3) h0
  obtain ⟨y1, e1⟩ := get_cells hlen 1 (by decide)
  have h1 : DataW.trod enc Try.prog w base spare held n 9 ((cs.drop 1).take (Try.prog.cellsOf 9)) = some y1 := (hf 1 _ rfl).trans e1
  rw [show Try.prog.cellsOf 9 = 1 from by kernel_rfl] at h1
  obtain ⟨a1, k1_, g1⟩ := (opens_string Try.underlying9) h1
  exact ⟨⟨a0, a1⟩, ⟨_, _, (List.drop_zero).symm.trans (part_cells cs 0 1), k0_, (by rw [← cut_cells hl (show 1 + 1 = 2 from rfl)]; exact k1_)⟩, g0, g1⟩
def G54 (x : S54) : Prop := (x.f0.length ≤ 9223372036854775807 ∧ ∀ y0 ∈ x.f0, y0.size ≤ 9223372036854775807) ∧ G52 x.f1
theorem opens54 : Opens Try.prog k54 54 G54 := by
  intro H enc w base spare held fuel cs x h
  obtain ⟨xs, n, _, _, hl, hlen, hf⟩ := DataW.trod_struct Try.underlying54 h
  replace hl : cs.length = 3 := hl.trans (by kernel_rfl)
  replace hlen : xs.length = 2 := hlen
  obtain ⟨y0, e0⟩ := get_cells hlen 0 (by decide)
  have h0 : DataW.trod enc Try.prog w base spare held n 22 ((cs.drop 0).take (Try.prog.cellsOf 22)) = some y0 := (hf 0 _ rfl).trans e0
  rw [show Try.prog.cellsOf 22 = 1 from by kernel_rfl] at h0
  obtain ⟨a0, k0_, g0⟩ := (opens_slice Try.underlying22 (by kernel_rfl) (opens_string Try.underlying9)) h0
  obtain ⟨y1, e1⟩ := get_cells hlen 1 (by decide)
  have h1 : DataW.trod enc Try.prog w base spare held n 52 ((cs.drop 1).take (Try.prog.cellsOf 52)) = some y1 := (hf 1 _ rfl).trans e1
  rw [show Try.prog.cellsOf 52 = 2 from by kernel_rfl] at h1
  obtain ⟨a1, k1_, g1⟩ := opens52 h1
  exact ⟨⟨a0, a1⟩, ⟨_, _, (List.drop_zero).symm.trans (part_cells cs 0 1), k0_, (by rw [← cut_cells hl (show 1 + 2 = 3 from rfl)]; exact k1_)⟩, g0, g1⟩
def G63 (x : S63) : Prop := (Lit.int .i64 x.f0).wf = true ∧ (x.f1.length ≤ 9223372036854775807 ∧ ∀ y0 ∈ x.f1, y0.size ≤ 9223372036854775807)
theorem opens63 : Opens Try.prog k63 63 G63 := by
  intro H enc w base spare held fuel cs x h
  obtain ⟨xs, n, _, _, hl, hlen, hf⟩ := DataW.trod_struct Try.underlying63 h
  replace hl : cs.length = 2 := hl.trans (by kernel_rfl)
  replace hlen : xs.length = 2 := hlen
  obtain ⟨y0, e0⟩ := get_cells hlen 0 (by decide)
  have h0 : DataW.trod enc Try.prog w base spare held n 3 ((cs.drop 0).take (Try.prog.cellsOf 3)) = some y0 := (hf 0 _ rfl).trans e0
  rw [show Try.prog.cellsOf 3 = 1 from by kernel_rfl] at h0
  obtain ⟨a0, k0_, g0⟩ := (opens_int Try.underlying3) h0
  obtain ⟨y1, e1⟩ := get_cells hlen 1 (by decide)
  have h1 : DataW.trod enc Try.prog w base spare held n 22 ((cs.drop 1).take (Try.prog.cellsOf 22)) = some y1 := (hf 1 _ rfl).trans e1
  rw [show Try.prog.cellsOf 22 = 1 from by kernel_rfl] at h1
  obtain ⟨a1, k1_, g1⟩ := (opens_slice Try.underlying22 (by kernel_rfl) (opens_string Try.underlying9)) h1
  exact ⟨⟨a0, a1⟩, ⟨_, _, (List.drop_zero).symm.trans (part_cells cs 0 1), k0_, (by rw [← cut_cells hl (show 1 + 1 = 2 from rfl)]; exact k1_)⟩, g0, g1⟩
end Go.Proofs.Ytnekmofpamnceaa.Q

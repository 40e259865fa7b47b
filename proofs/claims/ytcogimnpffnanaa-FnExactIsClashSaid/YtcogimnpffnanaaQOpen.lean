/- Which Lean values the laws' arguments are opened to: each struct type by its fields. -/
import Derived.Test.YtcogimnpffnanaaOpen
import Derived.Test.YtcogimnpffnanaaJB3
namespace Go.Proofs.Ytcogimnpffnanaa.Q
open Go.RowKit Go.Proofs.Ytcogimnpffnanaa.XO Go.Proofs.YtcogimnpffnanaaW.PrintWords Go.ChangeShapes Go.WideShapes
set_option linter.unusedVariables false
set_option linter.unusedSimpArgs false
theorem opens_bool {P : Program} {t : TypeId} (ht : P.underlying t = some .bool) : Opens P Kd.bool t (fun _ => True) := by
  intro H enc w base spare held fuel cs x h
  obtain ⟨n, rfl, _⟩ := DataW.trod_bool ht h
  exact ⟨n, rfl, trivial⟩
def G60 (x : S60) : Prop := (Lit.int .i64 x.f0).wf = true ∧ (x.f1.length ≤ 9223372036854775807 ∧ ∀ y0 ∈ x.f1, y0.size ≤ 9223372036854775807)
theorem opens60 : Opens Try.prog k60 60 G60 := by
  intro H enc w base spare held fuel cs x h
  obtain ⟨xs, n, _, _, hl, hlen, hf⟩ := DataW.trod_struct Try.underlying60 h
  replace hl : cs.length = 2 := hl.trans (by kernel_rfl)
  replace hlen : xs.length = 2 := hlen
  obtain ⟨y0, e0⟩ := get_cells hlen 0 (by decide)
  have h0 : DataW.trod enc Try.prog w base spare held n 3 ((cs.drop 0).take (Try.prog.cellsOf 3)) = some y0 := (hf 0 _ rfl).trans e0
  rw [show Try.prog.cellsOf 3 = 1 from by kernel_rfl] at h0
  obtain ⟨a0, k0_, g0⟩ := (opens_int Try.underlying3) h0
  obtain ⟨y1, e1⟩ := get_cells hlen 1 (by decide)
  have h1 : DataW.trod enc Try.prog w base spare held n 25 ((cs.drop 1).take (Try.prog.cellsOf 25)) = some y1 := (hf 1 _ rfl).trans e1
  rw [show Try.prog.cellsOf 25 = 1 from by kernel_rfl] at h1
  obtain ⟨a1, k1_, g1⟩ := (opens_slice Try.underlying25 (by kernel_rfl) (opens_string Try.underlying9)) h1
  exact ⟨⟨a0, a1⟩, ⟨_, _, (List.drop_zero).symm.trans (part_cells cs 0 1), k0_, (by rw [← cut_cells hl (show 1 + 1 = 2 from rfl)]; exact k1_)⟩, g0, g1⟩
def G24 (x : S24) : Prop := (Lit.int .i64 x.f0).wf = true ∧ x.f1.size ≤ 9223372036854775807
theorem opens24 : Opens Try.prog k24 24 G24 := by
  intro H enc w base spare held fuel cs x h
  obtain ⟨xs, n, _, _, hl, hlen, hf⟩ := DataW.trod_struct Try.underlying24 h
  replace hl : cs.length = 2 := hl.trans (by kernel_rfl)
  replace hlen : xs.length = 2 := hlen
  obtain ⟨y0, e0⟩ := get_cells hlen 0 (by decide)
  have h0 : DataW.trod enc Try.prog w base spare held n 3 ((cs.drop 0).take (Try.prog.cellsOf 3)) = some y0 := (hf 0 _ rfl).trans e0
  rw [show Try.prog.cellsOf 3 = 1 from by kernel_rfl] at h0
  obtain ⟨a0, k0_, g0⟩ := (opens_int Try.underlying3) h0
  obtain ⟨y1, e1⟩ := get_cells hlen 1 (by decide)
  have h1 : DataW.trod enc Try.prog w base spare held n 9 ((cs.drop 1).take (Try.prog.cellsOf 9)) = some y1 := (hf 1 _ rfl).trans e1
  rw [show Try.prog.cellsOf 9 = 1 from by kernel_rfl] at h1
  obtain ⟨a1, k1_, g1⟩ := (opens_string Try.underlying9) h1
  exact ⟨⟨a0, a1⟩, ⟨_, _, (List.drop_zero).symm.trans (part_cells cs 0 1), k0_, (by rw [← cut_cells hl (show 1 + 1 = 2 from rfl)]; exact k1_)⟩, g0, g1⟩
def G27 (x : S27) : Prop := (Lit.int .i64 x.f0).wf = true ∧ (Lit.int .i64 x.f1).wf = true ∧ (Lit.int .i64 x.f2).wf = true ∧ G24 x.f3 ∧ (Lit.int .i64 x.f4).wf = true ∧ (x.f5.length ≤ 9223372036854775807 ∧ ∀ y0 ∈ x.f5, y0.size ≤ 9223372036854775807)
theorem opens27 : Opens Try.prog k27 27 G27 := by
  intro H enc w base spare held fuel cs x h
  obtain ⟨xs, n, _, _, hl, hlen, hf⟩ := DataW.trod_struct Try.underlying27 h
  replace hl : cs.length = 7 := hl.trans (by kernel_rfl)
  replace hlen : xs.length = 6 := hlen
  obtain ⟨y0, e0⟩ := get_cells hlen 0 (by decide)
  have h0 : DataW.trod enc Try.prog w base spare held n 3 ((cs.drop 0).take (Try.prog.cellsOf 3)) = some y0 := (hf 0 _ rfl).trans e0
  rw [show Try.prog.cellsOf 3 = 1 from by kernel_rfl] at h0
  obtain ⟨a0, k0_, g0⟩ := (opens_int Try.underlying3) h0
  obtain ⟨y1, e1⟩ := get_cells hlen 1 (by decide)
  have h1 : DataW.trod enc Try.prog w base spare held n 3 ((cs.drop 1).take (Try.prog.cellsOf 3)) = some y1 := (hf 1 _ rfl).trans e1
  rw [show Try.prog.cellsOf 3 = 1 from by kernel_rfl] at h1
  obtain ⟨a1, k1_, g1⟩ := (opens_int Try.underlying3) h1
  obtain ⟨y2, e2⟩ := get_cells hlen 2 (by decide)
  have h2 : DataW.trod enc Try.prog w base spare held n 3 ((cs.drop 2).take (Try.prog.cellsOf 3)) = some y2 := (hf 2 _ rfl).trans e2
  rw [show Try.prog.cellsOf 3 = 1 from by kernel_rfl] at h2
  obtain ⟨a2, k2_, g2⟩ := (opens_int Try.underlying3) h2
  obtain ⟨y3, e3⟩ := get_cells hlen 3 (by decide)
  have h3 : DataW.trod enc Try.prog w base spare held n 24 ((cs.drop 3).take (Try.prog.cellsOf 24)) = some y3 := (hf 3 _ rfl).trans e3
  rw [show Try.prog.cellsOf 24 = 2 from by kernel_rfl] at h3
  obtain ⟨a3, k3_, g3⟩ := opens24 h3
  obtain ⟨y4, e4⟩ := get_cells hlen 4 (by decide)
  have h4 : DataW.trod enc Try.prog w base spare held n 3 ((cs.drop 5).take (Try.prog.cellsOf 3)) = some y4 := (hf 4 _ rfl).trans e4
  rw [show Try.prog.cellsOf 3 = 1 from by kernel_rfl] at h4
  obtain ⟨a4, k4_, g4⟩ := (opens_int Try.underlying3) h4
  obtain ⟨y5, e5⟩ := get_cells hlen 5 (by decide)
  have h5 : DataW.trod enc Try.prog w base spare held n 25 ((cs.drop 6).take (Try.prog.cellsOf 25)) = some y5 := (hf 5 _ rfl).trans e5
  rw [show Try.prog.cellsOf 25 = 1 from by kernel_rfl] at h5
  obtain ⟨a5, k5_, g5⟩ := (opens_slice Try.underlying25 (by kernel_rfl) (opens_string Try.underlying9)) h5
  exact ⟨⟨a0, a1, a2, a3, a4, a5⟩, ⟨_, _, (List.drop_zero).symm.trans (part_cells cs 0 1), k0_, ⟨_, _, part_cells cs 1 1, k1_, ⟨_, _, part_cells cs 2 1, k2_, ⟨_, _, part_cells cs 3 2, k3_, ⟨_, _, part_cells cs 5 1, k4_, (by rw [← cut_cells hl (show 6 + 1 = 7 from rfl)]; exact k5_)⟩⟩⟩⟩⟩, g0, g1, g2, g3, g4, g5⟩
def G97 (x : S97) : Prop := (x.f0.length ≤ 9223372036854775807 ∧ ∀ y0 ∈ x.f0, y0.size ≤ 9223372036854775807) ∧ G24 x.f1
theorem opens97 : Opens Try.prog k97 97 G97 := by
  intro H enc w base spare held fuel cs x h
  obtain ⟨xs, n, _, _, hl, hlen, hf⟩ := DataW.trod_struct Try.underlying97 h
  replace hl : cs.length = 3 := hl.trans (by kernel_rfl)
  replace hlen : xs.length = 2 := hlen
  obtain ⟨y0, e0⟩ := get_cells hlen 0 (by decide)
  have h0 : DataW.trod enc Try.prog w base spare held n 25 ((cs.drop 0).take (Try.prog.cellsOf 25)) = some y0 := (hf 0 _ rfl).trans e0
  rw [show Try.prog.cellsOf 25 = 1 from by kernel_rfl] at h0
  obtain ⟨a0, k0_, g0⟩ := (opens_slice Try.underlying25 (by kernel_rfl) (opens_string Try.underlying9)) h0
  obtain ⟨y1, e1⟩ := get_cells hlen 1 (by decide)
  have h1 : DataW.trod enc Try.prog w base spare held n 24 ((cs.drop 1).take (Try.prog.cellsOf 24)) = some y1 := (hf 1 _ rfl).trans e1
  rw [show Try.prog.cellsOf 24 = 2 from by kernel_rfl] at h1
  obtain ⟨a1, k1_, g1⟩ := opens24 h1
  exact ⟨⟨a0, a1⟩, ⟨_, _, (List.drop_zero).symm.trans (part_cells cs 0 1), k0_, (by rw [← cut_cells hl (show 1 + 2 = 3 from rfl)]; exact k1_)⟩, g0, g1⟩
def G111 (x : S111) : Prop := G97 x.f0 ∧ (x.f1.length ≤ 9223372036854775807 ∧ ∀ y0 ∈ x.f1, (Lit.int .u8 y0).wf = true) ∧ (Lit.int .i64 x.f2).wf = true
theorem opens111 : Opens Try.prog k111 111 G111 := by
  intro H enc w base spare held fuel cs x h
  obtain ⟨xs, n, _, _, hl, hlen, hf⟩ := DataW.trod_struct Try.underlying111 h
  replace hl : cs.length = 5 := hl.trans (by kernel_rfl)
  replace hlen : xs.length = 3 := hlen
  obtain ⟨y0, e0⟩ := get_cells hlen 0 (by decide)
  have h0 : DataW.trod enc Try.prog w base spare held n 97 ((cs.drop 0).take (Try.prog.cellsOf 97)) = some y0 := (hf 0 _ rfl).trans e0
  rw [show Try.prog.cellsOf 97 = 3 from by kernel_rfl] at h0
  obtain ⟨a0, k0_, g0⟩ := opens97 h0
  obtain ⟨y1, e1⟩ := get_cells hlen 1 (by decide)
  have h1 : DataW.trod enc Try.prog w base spare held n 29 ((cs.drop 3).take (Try.prog.cellsOf 29)) = some y1 := (hf 1 _ rfl).trans e1
  rw [show Try.prog.cellsOf 29 = 1 from by kernel_rfl] at h1
  obtain ⟨a1, k1_, g1⟩ := (opens_slice Try.underlying29 (by kernel_rfl) (opens_int Try.underlying5)) h1
  obtain ⟨y2, e2⟩ := get_cells hlen 2 (by decide)
  have h2 : DataW.trod enc Try.prog w base spare held n 3 ((cs.drop 4).take (Try.prog.cellsOf 3)) = some y2 := (hf 2 _ rfl).trans e2
  rw [show Try.prog.cellsOf 3 = 1 from by kernel_rfl] at h2
  obtain ⟨a2, k2_, g2⟩ := (opens_int Try.underlying3) h2
  exact ⟨⟨a0, a1, a2⟩, ⟨_, _, (List.drop_zero).symm.trans (part_cells cs 0 3), k0_, ⟨_, _, part_cells cs 3 1, k1_, (by rw [← cut_cells hl (show 4 + 1 = 5 from rfl)]; exact k2_)⟩⟩, g0, g1, g2⟩
end Go.Proofs.Ytcogimnpffnanaa.Q

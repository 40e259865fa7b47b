-- Joined by a program of this session (wip/tools/merge.py): texts of mine and of pp.sh.
import Derived.Test.YtnekmofpamnceaaJFnEdges3
import Derived.Test.YtnekmofpamnceaaRows
import Derived.WalkKit
import Derived.ProofKit
import Derived.OpenShut
import Derived.ShutString
import Derived.ChangeOld
import Derived.Below
import Derived.SizedLaws
import Derived.Carry
section
/- The row of the law FnEdges out of its pure statement and the printed walk. -/
namespace Go.Proofs.Ytnekmofpamnceaa.Q
open Go.RowKit Go.Proofs.Ytnekmofpamnceaa.XO Go.Proofs.YtnekmofpamnceaaW.PrintWords Go.ChangeShapes Go.WideShapes Go.ChangeAt
set_option linter.unusedVariables false
set_option linter.unusedSimpArgs false
def laws_FnEdges.Pure : Prop := ∀ (x0 : List Int), (x0.length ≤ 9223372036854775807 ∧ ∀ y0 ∈ x0, (Lit.int .u8 y0).wf = true) → ∃ k, laws_FnEdges.f k x0 = some true
namespace RFnEdges
theorem own : ownKnob Try.prog.godebug = none := by kernel_rfl
theorem laidOut : laidOutB Try.prog = true := by kernel_rfl
set_option maxRecDepth 100000 in
theorem lifted (PU : laws_FnEdges.Pure) (os : Os) (started : os.Started) (H : Type) (enc : TypeId × Value → H) :
    ReturnsInHanded {} Try.checked os 5 .any (Rows.fnEdgesSpec.pre6 enc Try.prog Try.f5 Rows.fnEdgesRow.domain false) (Rows.fnEdgesSpec.post enc Try.prog Try.f5 false true false false) := by
  refine returnsInHanded_of_change_sized (C := Try.checked) own started (by kernel_rfl) Try.func5
    (ChangeSpec.witness6 (enc := enc) (C := Try.checked) false ⟨#[], #[.slice none 0 0], []⟩ 8 (by kernel_rfl) (by kernel_rfl) (by kernel_rfl) (by kernel_rfl)) ?_
  intro W base args ds gs before hval0 hW hcnd hsz0 _
  have hval : ∀ (j : Nat) t v, Try.f5.params[j]? = some t → args[j]? = some v → Value.okWide Try.prog W .any base t v := hval0
  have hW' := hW
  obtain ⟨p, q, hA0, hV, rfl, hfz, hnd⟩ := hW
  have hA : DataW.TrodAll enc Try.prog W 0 (fun _ => true) true Try.f5.params.toList args.toList ds p := hA0
  rw [Try.params5] at hA hval
  obtain ⟨v0, vs0, d0, ds0, p0, q0, hargs, rfl, rfl, h0, r0⟩ := trodAll_cons hA
  obtain ⟨rfl, rfl, rfl⟩ := trodAll_nil r0
  obtain rfl : args = #[v0] := by cases args; simp_all
  obtain ⟨rfl, rfl⟩ := trodVars_none hV
  have kk0 := h0
  have lt0 : ∀ x ∈ p0, x.block < W.heap.size := by obtain ⟨m, hm⟩ := kk0; exact DataW.trod_lt m _ _ _ hm
  obtain ⟨A0, len0, c0, rfl⟩ := okWide_slice Try.underlying36 (hval 0 36 v0 rfl rfl)
  obtain ⟨fu0, hf0⟩ := h0
  obtain ⟨x0, ⟨A0', c0', he0, hc0, hr0⟩, g0⟩ := (opens_slice Try.underlying36 (by kernel_rfl) (opens_int Try.underlying5)) hf0
  obtain ⟨rfl, rfl, rfl⟩ : A0 = A0' ∧ len0 = x0.length ∧ c0 = c0' := by simpa [Value.cells] using he0
  clear hA0 hval0 hsz0
  obtain ⟨k, hp⟩ := PU x0 g0
  refine (laws_FnEdges.calls k _ _ x0 true W hr0 hc0 hp).mono fun e W' ⟨he, bel0⟩ => ?_
  have bel : Below W.heap.size W W' := bel0
  subst he
  exact ⟨_, rfl, _, _, _, [], _, [], hW', trodAll_mk1 (shut_bool Try.underlying4 _), (trodAll_cons_mk (Below.trod laidOut (by kernel_rfl) (of_decide_eq_true (by kernel_rfl)) kk0 bel lt0) trodAll_mk0), rfl, bel.frame _, fun h => by cases h⟩
theorem over (PU : laws_FnEdges.Pure) : Rows.fnEdgesRow.holds Try.pinned (OpenSpec.ofChange Rows.fnEdgesSpec) :=
  OpenClaim.holds_of_wide 5 Try.f5 rfl rfl rfl rfl rfl rfl rfl ⟨rfl, rfl, rfl, rfl, rfl⟩ rfl rfl rfl rfl rfl (by kernel_rfl) Try.func5 (by kernel_rfl)
    (of_decide_eq_true (by kernel_rfl)) (by unfold Func.isWrapper; first | (rw [if_pos (by decide +kernel)]; kernel_rfl) | (rw [if_neg (by decide +kernel)]; exact ⟨rfl, rfl⟩))
    (fun os started H enc _ => lifted PU os started H enc)
end RFnEdges
theorem FnEdges_row (PU : laws_FnEdges.Pure) : Rows.FnEdgesSaid := RFnEdges.over PU
end Go.Proofs.Ytnekmofpamnceaa.Q
end

section
/- The edge of drawn texts has their root; more texts behind it make the edge of all; no condition. -/
namespace Go.Proofs.Ytnekmofpamnceaa.Q
open Go.RowKit Go.Proofs.Ytnekmofpamnceaa.B Go.Proofs.YtnekmofpamnceaaW.PrintWords
set_option linter.unusedVariables false
set_option linter.unusedSimpArgs false

theorem drawLeaves_ev (l0 : List Int) (hl : l0.length ≤ 1048576) : ∃ (l : List ByteArray) (n : Nat), Ev (fun k => spec_DrawLeaves.f k l0) (l, (n : Int)) ∧ n < l.length ∧ l.length ≤ 9 ∧ ∀ x ∈ l, x.size ≤ 3 := by
  obtain ⟨h, hN⟩ := l1New_ev l0 hl
  obtain ⟨l, i1, h1, e1, d1, hl1, hx1⟩ := l6List_ev h (Drawer.new hl)
  have hlen : (l ++ [(⟨#[122]⟩ : ByteArray)]).length = l.length + 1 := by simp
  obtain ⟨b, i2, h2, e2, b0, b1, d2⟩ := l1Below_ok h1 ((l ++ [(⟨#[122]⟩ : ByteArray)]).length : Int) d1 (by omega) (by omega)
  obtain ⟨n, rfl⟩ := Int.eq_ofNat_of_zero_le b0
  refine ⟨l ++ [⟨#[122]⟩], n, ?_, by omega, by omega, fun x hx => ?_⟩
  · unfold spec_DrawLeaves.f
    refine Ev.bind hN (Ev.bind e1 ?_)
    simp only
    refine Ev.pos (by omega) (Ev.bind (Ev.now _) ?_)
    exact Ev.bind (Ev.const e2) (Ev.now _)
  · rcases List.mem_append.1 hx with hx | hx
    · exact hx1 x hx
    · rw [List.mem_singleton.1 hx]
      decide
theorem edgeOf_few (l : List ByteArray) (h : l.length ≤ 200) : edgeOf l = ((l.length : Int), edgeHs l) := if_neg (by omega)
theorem edgeRootOf_hs (l : List ByteArray) (h1 : 1 ≤ l.length) (h : l.length ≤ 10) : edgeRootOf (l.length : Int) (edgeHs l) = rootBy leafH l := by
  unfold edgeRootOf
  rw [if_pos (edgeOk_hs l (by omega)), edge_root l h1 h]

theorem pure_FnEdges : laws_FnEdges.Pure := by
  intro l0 gl
  refine Ev.rounds (g := fun k => laws_FnEdges.f k l0) ?_
  unfold laws_FnEdges.f laws_big.f
  simp only [Option.bind_some]
  by_cases h : (l0.length : Int) > 1048576
  · rw [decide_eq_true h]
    exact Ev.pos rfl (Ev.now _)
  · rw [decide_eq_false h]
    obtain ⟨l, n, hD, hn, hl, hx⟩ := drawLeaves_ev l0 (by omega)
    have hb : ∀ x ∈ l, x.size ≤ 1048700 := fun x hm => by have := hx x hm; omega
    have hB : ∀ x ∈ l, x.size ≤ bigB := fun x hm => by have := hx x hm; unfold bigB; omega
    have hxx : (⟨#[120]⟩ : ByteArray).size = 1 := rfl
    have e1 := impl_EdgeOf_eq l hb
    rw [edgeOf_few l (by omega)] at e1
    have tl : (l.take n).length = n := by simp; omega
    have dl : (l.drop n).length = l.length - n := by simp
    have e2 := impl_EdgeOf_eq (l.take n) (fun x hm => hb x (List.mem_of_mem_take hm))
    rw [edgeOf_few (l.take n) (by omega), tl] at e2
    obtain ⟨i1, i2⟩ := edgeHs_inv (l.take n) (by omega)
    obtain ⟨j1, j2⟩ := edgeHs_inv l (by omega)
    rw [tl] at i1
    have e3 := impl_EdgeAll_ev n (edgeHs (l.take n)) (l.drop n) (by omega) i1 i2 (fun x hm => hb x (List.mem_of_mem_drop hm))
    have hcat : edgeFrom (n, edgeHs (l.take n)) (l.drop n) = (l.length, edgeHs l) := by
      have hp : edgeFrom (0, []) (l.take n) = (n, edgeHs (l.take n)) := by
        obtain ⟨p, _, _⟩ := edgeFrom_inv (l.take n) (0, []) (by simp only; omega) (by simp only [List.length_nil]; decide) (by simp)
        rw [tl] at p
        simp only [Nat.zero_add] at p
        exact Prod.ext p rfl
      have hq : edgeFrom (0, []) l = (l.length, edgeHs l) := by
        obtain ⟨p, _, _⟩ := edgeFrom_inv l (0, []) (by simp only; omega) (by simp only [List.length_nil]; decide) (by simp)
        simp only [Nat.zero_add] at p
        exact Prod.ext p rfl
      rw [← hp, ← hq]
      unfold edgeFrom
      rw [← List.foldl_append, List.take_append_drop]
    rw [hcat] at e3
    have e4 := impl_EdgeAdd_eq l.length (edgeHs l) (⟨#[120]⟩ : ByteArray) (by omega) j1 j2 (by omega)
    rw [← edgeHs_snoc l (⟨#[120]⟩ : ByteArray) (by omega)] at e4
    have hsn : (l ++ [(⟨#[120]⟩ : ByteArray)]).length = l.length + 1 := by simp
    have hBs : ∀ x ∈ l ++ [(⟨#[120]⟩ : ByteArray)], x.size ≤ bigB := fun x hm => by
      rcases List.mem_append.1 hm with hm | hm
      · exact hB x hm
      · rw [List.mem_singleton.1 hm]
        decide
    obtain ⟨k1, k2⟩ := edgeHs_inv (l ++ [(⟨#[120]⟩ : ByteArray)]) (by omega)
    have q1 : (edgeHs l).length ≤ 8 := by
      rw [j1]
      exact pops_few ⟨l.length, by omega⟩
    have q2 : (edgeHs (l ++ [(⟨#[120]⟩ : ByteArray)])).length ≤ 8 := by
      rw [k1]
      exact pops_few ⟨_, by omega⟩
    have e5 := impl_EdgeOk_ev (l.length : Int) (edgeHs l) (by omega)
    rw [edgeOk_hs l (by omega)] at e5
    have e6 := impl_EdgeRoot_ev (l.length : Int) (edgeHs l) (by omega) (fun x hm => by rw [j2 x hm]; decide)
    rw [edgeRootOf_hs l (by omega) (by omega)] at e6
    have e7 := impl_EdgeRoot_ev ((l.length + 1 : Nat) : Int) (edgeHs (l ++ [(⟨#[120]⟩ : ByteArray)])) (by omega) (fun x hm => by rw [k2 x hm]; decide)
    rw [← hsn, edgeRootOf_hs (l ++ [(⟨#[120]⟩ : ByteArray)]) (by omega) (by omega), hsn] at e7
    have e8 := impl_RootOf_ev l (by omega) hB
    have e9 := impl_RootOf_ev (l ++ [(⟨#[120]⟩ : ByteArray)]) (by omega) hBs
    have e10 := laws_same_ev (edgeHs l) (edgeHs l) (by omega)
    rw [decide_eq_true rfl] at e10
    refine Ev.neg (by simp) (Ev.bind hD ?_)
    simp only
    refine (Ev.bind (Ev.const e1) (Ev.pos (by omega) (Ev.pos (by omega) (Ev.bind (Ev.const e2) (Ev.bind e3 (Ev.bind (Ev.const e4) (Ev.pos rfl (Ev.pos rfl (Ev.bind e5 (Ev.pos rfl (Ev.pos rfl (Ev.bind e6 (Ev.bind e8 (Ev.pos rfl (Ev.pos rfl (Ev.bind e10 ?_))))))))))))))))
    refine Ev.step (fun k => by simp only [laws_FnEdges.j0]; rfl) ?_
    refine Ev.neg (by simp) (Ev.bind e7 (Ev.bind (Ev.now _) ?_))
    simp only [List.nil_append, List.length_nil]
    refine Ev.pos (by omega) (Ev.bind (Ev.now _) (Ev.pos (by omega) (Ev.bind e9 (Ev.pos rfl (Ev.one (Ev.now _) ?_)))))
    exact decide_eq_true (by omega)
end Go.Proofs.Ytnekmofpamnceaa.Q
namespace Go.Proofs.Ytnekmofpamnceaa
theorem fnEdges_holds : Rows.FnEdgesSaid := Q.FnEdges_row Q.pure_FnEdges
end Go.Proofs.Ytnekmofpamnceaa
end

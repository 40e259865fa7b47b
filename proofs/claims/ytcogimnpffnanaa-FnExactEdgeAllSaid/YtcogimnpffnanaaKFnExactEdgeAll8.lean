-- Joined and shortened by a program of this session (wip/tools/shakecopy.py): the words of the print, texts of pp.sh and of mine.
import Derived.Test.YtcogimnpffnanaaKFnExactEdgeAll7
import Derived.Test.YtcogimnpffnanaaRows
import Derived.WalkKit
import Derived.ProofKit
import Derived.OpenShut
import Derived.ShutString
import Derived.ChangeOld
import Derived.Below
import Derived.SizedLaws
import Derived.Carry
section
/- The row of the law FnExactEdgeAll out of its pure statement and the printed walk. -/
namespace Go.Proofs.Ytcogimnpffnanaa.Q
open Go.RowKit Go.Proofs.Ytcogimnpffnanaa.XO Go.Proofs.YtcogimnpffnanaaW.PrintWords Go.ChangeShapes Go.WideShapes Go.ChangeAt
set_option linter.unusedVariables false
set_option linter.unusedSimpArgs false
def laws_FnExactEdgeAll.Pure : Prop := ∀ (x0 : S60) (x1 : List ByteArray), G60 x0 → (x1.length ≤ 9223372036854775807 ∧ ∀ y0 ∈ x1, y0.size ≤ 9223372036854775807) → ∃ k, laws_FnExactEdgeAll.f k x0.f0 x0.f1 x1 = some true
namespace RFnExactEdgeAll
theorem own : ownKnob Try.prog.godebug = none := by kernel_rfl
theorem laidOut : laidOutB Try.prog = true := by kernel_rfl
set_option maxRecDepth 100000 in
theorem lifted (PU : laws_FnExactEdgeAll.Pure) (os : Os) (started : os.Started) (H : Type) (enc : TypeId × Value → H) :
  ReturnsInHanded {} Try.checked os 8 .any (Rows.fnExactEdgeAllSpec.pre6 enc Try.prog Try.f8 Rows.fnExactEdgeAllRow.domain false) (Rows.fnExactEdgeAllSpec.post enc Try.prog Try.f8 false true false false) := by
 refine returnsInHanded_of_change_sized (C := Try.checked) own started (by kernel_rfl) Try.func8
  (ChangeSpec.witness6 (enc := enc) (C := Try.checked) false ⟨#[], #[.agg #[.int .i64 0, .slice none 0 0], .slice none 0 0], []⟩ 8 (by kernel_rfl) (by kernel_rfl) (by kernel_rfl) (by kernel_rfl)) ?_
 intro W base args ds gs before hval0 hW hcnd hsz0 _
 have hval : ∀ (j : Nat) t v, Try.f8.params[j]? = some t → args[j]? = some v → Value.okWide Try.prog W .any base t v := hval0
 have hW' := hW
 obtain ⟨p, q, hA0, hV, rfl, hfz, hnd⟩ := hW
 have hA : DataW.TrodAll enc Try.prog W 0 (fun _ => true) true Try.f8.params.toList args.toList ds p := hA0
 rw [Try.params8] at hA hval
 obtain ⟨v0, vs0, d0, ds0, p0, q0, hargs, rfl, rfl, h0, r0⟩ := trodAll_cons hA
 obtain ⟨v1, vs1, d1, ds1, p1, q1, rfl, rfl, rfl, h1, r1⟩ := trodAll_cons r0
 obtain ⟨rfl, rfl, rfl⟩ := trodAll_nil r1
 obtain rfl : args = #[v0, v1] := by cases args; simp_all
 obtain ⟨rfl, rfl⟩ := trodVars_none hV
 have kk0 := h0
 have lt0 : ∀ x ∈ p0, x.block < W.heap.size := by obtain ⟨m, hm⟩ := kk0; exact DataW.trod_lt m _ _ _ hm
 obtain ⟨cs0, rfl, _⟩ := okWide_struct Try.underlying60 (hval 0 60 v0 rfl rfl)
 obtain ⟨fu0, hf0⟩ := h0
 obtain ⟨x0, hK0, g0⟩ := opens60 hf0
 obtain ⟨A0_1, c0_1, he0, hc0_1, hr0_1⟩ := k60_open hK0
 obtain rfl : cs0 = #[.int .i64 x0.f0, .slice A0_1 x0.f1.length c0_1] := by cases cs0; simpa [Value.cells] using he0
 have kk1 := h1
 have lt1 : ∀ x ∈ p1, x.block < W.heap.size := by obtain ⟨m, hm⟩ := kk1; exact DataW.trod_lt m _ _ _ hm
 obtain ⟨A1, len1, c1, rfl⟩ := okWide_slice Try.underlying25 (hval 1 25 v1 rfl rfl)
 obtain ⟨fu1, hf1⟩ := h1
 obtain ⟨x1, ⟨A1', c1', he1, hc1, hr1⟩, g1⟩ := (opens_slice Try.underlying25 (by kernel_rfl) (opens_string Try.underlying9)) hf1
 obtain ⟨rfl, rfl, rfl⟩ : A1 = A1' ∧ len1 = x1.length ∧ c1 = c1' := by simpa [Value.cells] using he1
 clear hA0 hval0 hsz0
 obtain ⟨k, hp⟩ := PU x0 x1 g0 g1
 refine (laws_FnExactEdgeAll.calls k x0.f0 _ _ x0.f1 _ _ x1 true W hr0_1 hc0_1 hr1 hc1 hp).mono fun e W' ⟨he, bel0⟩ => ?_
 have bel : Below W.heap.size W W' := bel0
 subst he
 exact ⟨_, rfl, _, _, _, [], _, [], hW', trodAll_mk1 (shut_bool Try.underlying4 _), (trodAll_cons_mk (Below.trod laidOut (by kernel_rfl) (of_decide_eq_true (by kernel_rfl)) kk0 bel lt0) (trodAll_cons_mk (Below.trod laidOut (by kernel_rfl) (of_decide_eq_true (by kernel_rfl)) kk1 bel lt1) trodAll_mk0)), rfl, bel.frame _, fun h => by cases h⟩
theorem over (PU : laws_FnExactEdgeAll.Pure) : Rows.fnExactEdgeAllRow.holds Try.pinned (OpenSpec.ofChange Rows.fnExactEdgeAllSpec) :=
 OpenClaim.holds_of_wide 8 Try.f8 rfl rfl rfl rfl rfl rfl rfl ⟨rfl, rfl, rfl, rfl, rfl⟩ rfl rfl rfl rfl rfl (by kernel_rfl) Try.func8 (by kernel_rfl)
  (of_decide_eq_true (by kernel_rfl)) (by unfold Func.isWrapper; first | (rw [if_pos (by decide +kernel)]; kernel_rfl) | (rw [if_neg (by decide +kernel)]; exact ⟨rfl, rfl⟩))
  (fun os started H enc _ => lifted PU os started H enc)
end RFnExactEdgeAll
theorem FnExactEdgeAll_row (PU : laws_FnExactEdgeAll.Pure) : Rows.FnExactEdgeAllSaid := RFnExactEdgeAll.over PU
end Go.Proofs.Ytcogimnpffnanaa.Q
end
section
/- The program's EdgeAll and the reference's return the same for every edge and list; no condition. -/
namespace Go.Proofs.Ytcogimnpffnanaa.Q
open Go.RowKit Go.Proofs.Ytcogimnpffnanaa.B Go.Proofs.YtcogimnpffnanaaW.PrintWords
set_option linter.unusedVariables false
theorem edgeAll_both (n : Int) (hs : List ByteArray) (l : List ByteArray) (hh : hs.length ≤ 1048576) (hl : l.length ≤ 1048576) (h2 : ∀ x ∈ l, x.size ≤ 1048700) :
  ∃ r : Int × List ByteArray × Bool, Ev (fun k => spec_EdgeAll.f k n hs l) r ∧ Ev (fun k => impl_EdgeAll.f k n hs l) r ∧ r.2.1.length ≤ 1048576 := by
 have main : ∀ (d i : Nat) (m : Int) (ks : List ByteArray), i + d = l.length → ks.length ≤ 1048576 → ∃ r : Int × List ByteArray × Bool, Ev (fun k => spec_EdgeAll.l0 k l (i : Int) n hs m ks) r ∧ Ev (fun k => impl_EdgeAll.l0 k l (l.length : Int) (i : Int) n hs m ks) r ∧ r.2.1.length ≤ 1048576 := by
  intro d
  induction d with
  | zero =>
   intro i m ks hi hk
   refine ⟨(m, ks, true), ?_, ?_, hk⟩
   ·refine Ev.step (fun k => by simp only [spec_EdgeAll.l0]; rfl) ?_
    exact Ev.neg (by omega) (Ev.now _)
   ·refine Ev.step (fun k => by simp only [impl_EdgeAll.l0]; rfl) ?_
    exact Ev.neg (by omega) (Ev.now _)
  | succ d ih =>
   intro i m ks hi hk
   obtain ⟨x, hx⟩ := get_some (l := l) (i := i) (by omega)
   have hxs := h2 x (List.mem_of_getElem? hx)
   have e1 := spec_EdgeAdd_ev m ks x hk hxs
   have e2 := impl_EdgeAdd_all m ks x hk hxs
   have hq := edgeAdd_length m ks x hk
   generalize edgeAdd m ks x = q at e1 e2 hq
   by_cases hb : q.2.2 = true
   ·obtain ⟨r, r1, r2, r3⟩ := ih (i + 1) q.1 q.2.1 (by omega) hq
    refine ⟨r, ?_, ?_, r3⟩
    ·refine Ev.step (fun k => by simp only [spec_EdgeAll.l0]; rfl) ?_
     rw [rdOf_at hx, w64 (x := (i : Int) + 1) (by omega) (by omega), show (i : Int) + 1 = ((i + 1 : Nat) : Int) by omega]
     exact Ev.pos (by omega) (Ev.pos (by omega) (Ev.bind e1 (Ev.pos hb r1)))
    ·refine Ev.step (fun k => by simp only [impl_EdgeAll.l0]; rfl) ?_
     rw [rdOf_at hx, w64 (x := (i : Int) + 1) (by omega) (by omega), show (i : Int) + 1 = ((i + 1 : Nat) : Int) by omega]
     exact Ev.pos (by omega) (Ev.pos (by omega) (Ev.pos (by omega) (Ev.bind (Ev.const e2) (Ev.pos hb r2))))
   ·refine ⟨(n, hs, false), ?_, ?_, hh⟩
    ·refine Ev.step (fun k => by simp only [spec_EdgeAll.l0]; rfl) ?_
     rw [rdOf_at hx]
     exact Ev.pos (by omega) (Ev.pos (by omega) (Ev.bind e1 (Ev.neg hb (Ev.bind (Ev.const (spec_copy_eq n hs hh)) (Ev.now _)))))
    ·refine Ev.step (fun k => by simp only [impl_EdgeAll.l0]; rfl) ?_
     rw [rdOf_at hx]
     exact Ev.pos (by omega) (Ev.pos (by omega) (Ev.pos (by omega) (Ev.bind (Ev.const e2) (Ev.neg hb (Ev.bind (Ev.const (copyEdge_eq n hs hh)) (Ev.now _))))))
 obtain ⟨r, r1, r2, r3⟩ := main l.length 0 n hs (by omega) hh
 refine ⟨r, ?_, ?_, r3⟩
 ·unfold spec_EdgeAll.f
  exact Ev.bind (Ev.const (spec_copy_eq n hs hh)) r1
 ·unfold impl_EdgeAll.f
  exact Ev.bind (Ev.const (copyEdge_eq n hs hh)) r2
theorem pure_FnExactEdgeAll : laws_FnExactEdgeAll.Pure := by
 intro x t g gt
 refine Ev.rounds (g := fun k => laws_FnExactEdgeAll.f k x.f0 x.f1 t) ?_
 obtain ⟨g3, g1, g2⟩ := g
 generalize x.f0 = n at *
 generalize x.f1 = l at *
 unfold laws_FnExactEdgeAll.f
 obtain ⟨r, hr, hc⟩ := szEdge_ev n l 1048576 (by omega) (by omega) g1 g2
 refine Ev.bind hr ?_
 rcases hc with hc | ⟨hc, hc1⟩
 ·exact Ev.pos hc (Ev.now _)
 ·have ht := total_nonneg l
  obtain ⟨r2, hr2, hc2⟩ := szStringS_ev t r hc (by omega) gt.1 gt.2
  refine Ev.neg (by omega) (Ev.bind hr2 ?_)
  rcases hc2 with hc2 | ⟨hc2, hc3⟩
  ·exact Ev.pos hc2 (Ev.now _)
  ·have htt := total_nonneg t
   have hT := toEdge_ev n l (by omega)
   have hS := toStringS_ev t (by omega)
   obtain ⟨q, h1, h2, hq⟩ := edgeAll_both n l t (by omega) (by omega) (fun x hx => by have := total_mem hx; omega)
   have hE := eqEdge_ev q.1 q.2.1 (by omega)
   obtain ⟨M, hM, hM1, hM2⟩ := markEdge_ev n l 1 (by omega) (by omega)
   obtain ⟨M2, hN, hN1, hN2⟩ := markStringS_ev t (1 + (l.length : Int)) (by omega) (by omega)
   obtain ⟨m, hm, hm1, hm2⟩ := markEdge_ev q.1 q.2.1 1 (by omega) (by omega)
   have hh := heldEdge_ev q.1 m 1 (by omega) (by omega) hm2
   rw [hm1] at hh
   have hbb : (q.2.2 != q.2.2) = false := by simp
   refine Ev.neg (by omega) (Ev.bind hT (Ev.bind hS (Ev.bind h1 (Ev.bind hT (Ev.bind hS (Ev.bind h2 (Ev.bind hE (Ev.pos rfl ?_))))))))
   simp only [hbb]
   refine Ev.step (fun k => by simp only [laws_FnExactEdgeAll.j0]; rfl) ?_
   refine Ev.neg (by simp) (Ev.bind hT (Ev.bind (eqEdge_ev n l (by omega)) (Ev.pos rfl (Ev.bind hS (Ev.bind (eqStringS_ev t (by omega)) (Ev.pos rfl (Ev.bind hM (Ev.bind hN (Ev.neg (by omega) (Ev.bind hE (Ev.pos rfl ?_)))))))))))
   simp only [hbb]
   refine Ev.step (fun k => by simp only [laws_FnExactEdgeAll.j1]; rfl) ?_
   refine Ev.neg (by simp) (Ev.bind hm (Ev.bind hh (Ev.neg (by omega) (Ev.pos rfl (Ev.bind hT (Ev.bind hS (Ev.bind h2 (Ev.bind hE (Ev.pos rfl ?_)))))))))
   simp only [hbb]
   refine Ev.step (fun k => by simp only [laws_FnExactEdgeAll.j2]; rfl) ?_
   exact Ev.neg (by simp) (Ev.bind hh (Ev.neg (by omega) (Ev.pos rfl (Ev.now _))))
end Go.Proofs.Ytcogimnpffnanaa.Q
namespace Go.Proofs.Ytcogimnpffnanaa
theorem fnExactEdgeAll_holds : Rows.FnExactEdgeAllSaid := Q.FnExactEdgeAll_row Q.pure_FnExactEdgeAll
end Go.Proofs.Ytcogimnpffnanaa
end

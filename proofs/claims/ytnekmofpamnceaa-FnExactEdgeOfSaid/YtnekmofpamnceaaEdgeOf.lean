/- The program's EdgeOf: the texts put behind a new edge, one by one. -/
import Derived.Test.YtnekmofpamnceaaEdgeAdd
namespace Go.Proofs.Ytnekmofpamnceaa.Q
open Go.RowKit Go.Proofs.YtnekmofpamnceaaW.PrintWords Go.Proofs.YtnekmofpamnceaaW.PrintLast Go.Proofs.YtnekmofpamnceaaW.PrintMore
set_option linter.unusedVariables false
set_option linter.unusedSimpArgs false

def edgeOfL : List ByteArray → Int → List ByteArray → Option (Int × List ByteArray)
  | [], n, hs => some (n, hs)
  | s :: r, n, hs => (impl_Edge_add.f n hs s).bind fun x => edgeOfL r (wrap64 (n + 1)) x
def impl_EdgeOf.f (l : List ByteArray) : Option (Int × List ByteArray) := if (l.length : Int) > 200 then some (0, []) else edgeOfL l 0 []
theorem drop_at {α : Type} {l : List α} {i : Nat} {x : α} (h : l[i]? = some x) : l.drop i = x :: l.drop (i + 1) := by
  obtain ⟨hi, he⟩ := List.getElem?_eq_some_iff.1 h
  rw [List.drop_eq_getElem_cons hi, he]

set_option maxHeartbeats 4000000 in
set_option maxRecDepth 100000 in
theorem impl_EdgeOf.calls (A0 : Option Addr) (c0 : Nat) (l0 : List ByteArray) (r1 : Int) (r2 : List ByteArray) (w : World) (hr0 : Kd.C Kd.string w A0 l0.length l0) (hc0 : l0.length ≤ c0) (h : impl_EdgeOf.f l0 = some (r1, r2)) :
    Calls Try.prog 22 #[.slice A0 l0.length c0] w fun e w' => ∃ v1_ : Value, e = .returned (.agg #[.int .i64 r1, v1_]) ∧ Kd.R Kd.string 9 w' w.heap.size (fun _ => True) v1_ r2 ∧ Below w.heap.size w w' := by
  have hu32 := Try.underlying32
  have HR0 := Aside0.mk hr0
  have HC0 := Aside0.mk hc0
  have HB := Aside0.mk (Below.refl w.heap.size w)
  clear hr0 hc0
  unfold impl_EdgeOf.f at h
  by_cases c1 : (l0.length : Int) > 200
  · rw [if_pos c1] at h
    simp only [Option.some.injEq, Prod.mk.injEq] at h
    obtain ⟨rfl, rfl⟩ := h
    have c1b0 : decide ((l0.length : Int) > 200) = true := decide_eq_true c1
    clear c1
    go_enter Try.func22, Try.ntmps22
    go_wp2_with ((with_reducible refine gate_dst (N := 2) rfl ?_); refine box_event ?hg (N := 2) ?hd (cs := #[.int .i64 0, .slice none 0 0]) (t := 32) ?hr ?_; (case hd => rfl); (case hg => rfl); (case hr => first | (go_simp; done) | (go_simp; rfl)); intro gb hg w3 hbox hb; have n0_ := Aside0.mk (below_step HB.out hb); have n1_ := Aside0.mk hbox; have n2_ := Aside0.mk ((by rw [hg]; exact below_size HB.out) : w.heap.size ≤ gb); clear HB; have HB := n0_; have BK := n1_; have GE := n2_; clear n0_ n1_ n2_ hb hbox hg; have hcz_0 : w3.cell? ⟨gb, 0, none⟩ = some (.int .i64 0) := (blk_cell BK.out 0).trans rfl; have hcz_1 : w3.cell? ⟨gb, 1, none⟩ = some (.slice none 0 0) := (blk_cell BK.out 1).trans rfl; have hfz_0 := blk_frozen BK.out 0; have hfz_1 := blk_frozen BK.out 1)
    refine bodyPost_ret (results_cell_row rfl _ _ gb 32 #[.int .i64 0, .slice none 0 0] (0, 0) _ rfl (blk_put (blk_put BK.out 0 _ rfl) 1 _ rfl) Try.underlying32 rfl (by kernel_rfl)) rfl ?_
    exact ⟨_, rfl, Kd.R_nil _ _ _ _ _, below_set (below_set HB.out GE.out) GE.out⟩
  · rw [if_neg c1] at h
    have c1b0 : decide ((l0.length : Int) > 200) = false := decide_eq_false c1
    have CL := Aside0.mk c1
    have H' := Aside0.mk h
    clear c1 h
    go_enter Try.func22, Try.ntmps22
    go_wp2_with (first | ((with_reducible refine gate_dst (N := 2) rfl ?_); refine box_event ?hg (N := 2) ?hd (cs := #[.int .i64 0, .slice none 0 0]) (t := 32) ?hr ?_; (case hd => rfl); (case hg => rfl); (case hr => first | (go_simp; done) | (go_simp; rfl)); intro gb hg w3 hbox hb; have n0_ := Aside0.mk (below_step HB.out hb); have n1_ := Aside0.mk hbox; have n2_ := Aside0.mk ((by rw [hg]; exact below_size HB.out) : w.heap.size ≤ gb); clear HB; have HB := n0_; have BK := n1_; have GE := n2_; clear n0_ n1_ n2_ hb hbox hg) | ((with_reducible refine gate_dst (N := 3) rfl ?_); refine box_event ?hg (N := 3) ?hd (cs := #[.int .i64 0, .slice none 0 0]) (t := 32) ?hr ?_; (case hd => rfl); (case hg => rfl); (case hr => first | (go_simp; done) | (go_simp; rfl)); intro g3 hg w4 hbox hb; have n0_ := Aside0.mk (below_step HB.out hb); have n1_ := Aside0.mk hbox; have n2_ := Aside0.mk ((by rw [hg]; exact below_size HB.out) : w.heap.size ≤ g3); have n3_ := Aside0.mk (blk_below BK.out hb); have n4_ := Aside0.mk ((by rw [hg]; exact Nat.ne_of_lt (blk_lt BK.out)) : gb ≠ g3); clear HB BK; have HB := n0_; have B3 := n1_; have G3 := n2_; have BK := n3_; have NE := n4_; clear n0_ n1_ n2_ n3_ n4_ hb hbox hg))
    go_loopg [5, 12] l0.length (fun kq v5 v12 w' => ∃ (i : Nat) (n : Int) (xs : List ByteArray) (Ao : Option Addr) (co : Nat), v12 = .int .i64 (i : Int) ∧ i + kq = l0.length ∧ Aside0 (edgeOfL (l0.drop i) n xs = some (r1, r2)) ∧ Aside0 (Kd.R Kd.string 9 w' w.heap.size (fun k => k ≠ g3) (.slice Ao xs.length co) xs) ∧ Aside0 (w'.heap[g3]? = some (.cells #[.int .i64 n, .slice Ao xs.length co] 32 (0, 0))) ∧ Aside0 (w'.heap[gb]? = some (.cells #[.int .i64 0, .slice none 0 0] 32 (0, 0))) ∧ Aside0 (Below w.heap.size w w'))
    case atStart => exact ⟨0, 0, [], none, 0, rfl, by omega, H', ⟨Kd.R_nil _ _ _ _ _⟩, B3, BK, HB⟩
    case round =>
      clear H' B3 BK HB
      obtain ⟨i, n, xs, Ao, co, rfl, hi, HA, HO, B3, BK, HB⟩ := hrel
      have HI := Aside0.mk hi
      have hf3_0 := blk_frozen B3.out 0
      have hf3_1 := blk_frozen B3.out 1
      have hc3_0 : wr.cell? ⟨g3, 0, none⟩ = some (.int .i64 n) := (blk_cell B3.out 0).trans rfl
      have hc3_1 : wr.cell? ⟨g3, 1, none⟩ = some (.slice Ao xs.length co) := (blk_cell B3.out 1).trans rfl
      cases gk with
      | zero =>
        obtain rfl : i = l0.length := by omega
        have H := HA.out
        rw [List.drop_of_length_le (Nat.le_refl _)] at H
        simp only [edgeOfL, Option.some.injEq, Prod.mk.injEq] at H
        obtain ⟨rfl, rfl⟩ := H
        have b1 : decide ((l0.length : Int) < (l0.length : Int)) = false := decide_eq_false (by omega)
        have hcz_0 : wr.cell? ⟨gb, 0, none⟩ = some (.int .i64 0) := (blk_cell BK.out 0).trans rfl
        have hcz_1 : wr.cell? ⟨gb, 1, none⟩ = some (.slice none 0 0) := (blk_cell BK.out 1).trans rfl
        have hfz_0 := blk_frozen BK.out 0
        have hfz_1 := blk_frozen BK.out 1
        have hnb := NE.out
        clear hi
        go_wp2
        refine bodyPost_ret (results_cell_row rfl _ _ gb 32 #[.int .i64 n, .slice Ao xs.length co] (0, 0) _ rfl (blk_put (blk_put BK.out 0 _ rfl) 1 _ rfl) Try.underlying32 rfl (by kernel_rfl)) rfl ?_
        exact ⟨_, rfl, Kd.R_mono (Kd.R_far (p := ⟨gb, 1, none⟩) (Kd.R_far (p := ⟨gb, 0, none⟩) (Kd.R_types HO.out BK.out (by decide)) (fun _ hk => hk.2) _) (fun _ hk => hk.2) _) (fun _ _ => trivial), below_set (below_set HB.out GE.out) GE.out⟩
      | succ k1 =>
        have hx0 : l0[i]? = some (rdOf ByteArray.empty l0 (i : Int)) := by
          unfold rdOf
          simp [List.getD_eq_getElem?_getD, List.getElem?_eq_getElem (show i < l0.length by omega)]
        have H := HA.out
        rw [drop_at hx0] at H
        simp only [edgeOfL] at H
        obtain ⟨ys, ha, H⟩ := Option.bind_eq_some_iff.mp H
        have AA := Aside0.mk ha
        have H' := Aside0.mk H
        have b1 : decide ((i : Int) < (l0.length : Int)) = true := decide_eq_true (by omega)
        have nx : wrap64 ((i : Int) + 1) = ((i + 1 : Nat) : Int) := by
          have := CL.out
          unfold wrap64
          omega
        obtain ⟨ad, hA0, hx⟩ := Kd.at_string (Kd.C_below HR0.out HB.out) (i : Int) (by omega) (by omega)
        subst hA0
        simp only [Int.toNat_natCast] at hx
        have p1 : (0 ≤ (i : Int)) = True := eq_true (by omega)
        have p2 : ((i : Int) < (l0.length : Int)) = True := eq_true (by omega)
        have NX := Aside0.mk nx
        clear hi HA ha H hx0 nx
        go_wp2_with ((with_reducible refine gate_callee (f := 69) rfl ?_); refine goesL_ (some 17) rfl rfl Try.func69 (by kernel_rfl) rfl #[.pointer (some ⟨g3, 0, none⟩), .string (rdOf ByteArray.empty l0 (i : Int))] rfl (by (try simp only [List.map_toArray, List.map_cons, List.map_nil]); first | done | rfl) ?_; (with_reducible refine (impl_Edge_add.calls g3 n xs (rdOf ByteArray.empty l0 (i : Int)) ys Ao co w _ G3.out B3.out HO.out HB.out AA.out).mono ?_); rintro e w5 ⟨rfl, Ao2, co2, ho, hb3, hb, hk⟩; refine ⟨_, rfl, ?_⟩; have n0_ := Aside0.mk (blk_kept BK.out hk (fun hs => hs.elim (fun e => NE.out e) (fun e => (Kd.R_ne HO.out BK.out (by decide)) e))); have n1_ := Aside0.mk ho; have n2_ := Aside0.mk hb3; have n3_ := Aside0.mk hb; clear BK HO B3 HB hf3_0 hf3_1 hc3_0 hc3_1 hx; have BK := n0_; have HO := n1_; have B3 := n2_; have HB := n3_; clear n0_ n1_ n2_ n3_ ho hb3 hb hk)
        go_roundg k1
        case measure => have := HI.out; omega
        case rel => exact ⟨i + 1, wrap64 (n + 1), ys, Ao2, co2, (by first | (rw [← NX.out]; rfl) | (simp [NX.out]; done)), (by have := HI.out; omega), H', HO, B3, BK, HB⟩
end Go.Proofs.Ytnekmofpamnceaa.Q

/- The program's (*Edge).add: a text put behind an edge, in place. -/
import Derived.Test.YtnekmofpamnceaaJB3
namespace Go.Proofs.Ytnekmofpamnceaa.Q
open Go.RowKit Go.Proofs.YtnekmofpamnceaaW.PrintWords Go.Proofs.YtnekmofpamnceaaW.PrintLast Go.Proofs.YtnekmofpamnceaaW.PrintMore
set_option linter.unusedVariables false
set_option linter.unusedSimpArgs false

def addL : Nat → List ByteArray → Int → ByteArray → Option (List ByteArray × ByteArray)
  | 0, _, _, _ => none
  | k + 1, hs, n, h => if (Go.bits .and .i64 n 1) = 1 then (if 0 ≤ (wrap64 ((hs.length : Int) - 1)) then (if (wrap64 ((hs.length : Int) - 1)) < (hs.length : Int) then ((impl_NodeHash.f (rdOf ByteArray.empty hs (wrap64 ((hs.length : Int) - 1))) h).bind fun t => (addL k (hs.take ((wrap64 ((hs.length : Int) - 1)) : Int).toNat) (n / 2) t)) else (none)) else (none)) else (some (hs, h))
def impl_Edge_add.f (n : Int) (hs : List ByteArray) (s : ByteArray) : Option (List ByteArray) := (impl_LeafHash.f s).bind fun h => ((addL 64 hs n h).bind fun r => (if r.1.length < 8796093022208 then (some (r.1 ++ [r.2])) else (none)))

set_option maxHeartbeats 4000000 in
set_option maxRecDepth 100000 in
theorem impl_Edge_add.calls (g : Nat) (n : Int) (hs : List ByteArray) (s : ByteArray) (r : List ByteArray) (A : Option Addr) (c : Nat) (w0 w : World) (hg : w0.heap.size ≤ g)
    (hbk : w.heap[g]? = some (.cells #[.int .i64 n, .slice A hs.length c] 32 (0, 0))) (hr : Kd.R Kd.string 9 w w0.heap.size (fun k => k ≠ g) (.slice A hs.length c) hs) (hB : Below w0.heap.size w0 w) (h : impl_Edge_add.f n hs s = some r) :
    Calls Try.prog 69 #[.pointer (some ⟨g, 0, none⟩), .string s] w fun e w' => e = .returned (.tuple #[]) ∧ ∃ (A' : Option Addr) (c' : Nat), Kd.R Kd.string 9 w' w0.heap.size (fun k => k ≠ g) (.slice A' r.length c') r ∧ w'.heap[g]? = some (.cells #[.int .i64 (wrap64 (n + 1)), .slice A' r.length c'] 32 (0, 0)) ∧ Below w0.heap.size w0 w' ∧ Kept w w' (fun k => k = g ∨ some k = (Value.slice A hs.length c).ownBlock) := by
  have HB := Aside0.mk hB
  have HO := Aside0.mk hr
  have BK := Aside0.mk hbk
  have GE := Aside0.mk hg
  have HKP := Aside0.mk (Kept.refl w (fun k => k = g ∨ some k = (Value.slice A hs.length c).ownBlock))
  unfold impl_Edge_add.f at h
  obtain ⟨t, h1, h⟩ := Option.bind_eq_some_iff.mp h
  obtain ⟨⟨hs2, t2⟩, h2, h⟩ := Option.bind_eq_some_iff.mp h
  have A1 := Aside0.mk h1
  have H' := Aside0.mk h2
  by_cases hl : hs2.length < 8796093022208
  · rw [if_pos hl] at h
    have LM := Aside0.mk hl
    obtain rfl := Option.some.inj h
    have hcz_0 : w.cell? ⟨g, 0, none⟩ = some (.int .i64 n) := (blk_cell BK.out 0).trans rfl
    have hcz_1 : w.cell? ⟨g, 1, none⟩ = some (.slice A hs.length c) := (blk_cell BK.out 1).trans rfl
    have hfz_0 := blk_frozen BK.out 0
    have hfz_1 := blk_frozen BK.out 1
    clear h h1 h2 hl hB hr hbk hg
    go_enter Try.func69, Try.ntmps69
    go_wp2_with ((with_reducible refine gate_callee (f := 103) rfl ?_); refine goesL_ (some 8) rfl rfl Try.func103 (by kernel_rfl) rfl #[.string s] rfl (by (try simp only [List.map_toArray, List.map_cons, List.map_nil]); first | done | rfl) ?_; (with_reducible refine (impl_LeafHash.calls s t _ A1.out).mono ?_); rintro e w1 ⟨rfl, hb⟩; refine ⟨_, rfl, ?_⟩; have n0_ := Aside0.mk (Kd.R_below HO.out hb); have n1_ := Aside0.mk (blk_below (g := g) (o := .cells #[.int .i64 n, .slice A hs.length c] 32 (0, 0)) BK.out hb); have n2_ := Aside0.mk (below_step HB.out hb); have n3_ := Aside0.mk (HKP.out.below hb); clear HO BK HB HKP hcz_0 hcz_1 hfz_0 hfz_1; have HO := n0_; have BK := n1_; have HB := n2_; have HKP := n3_; clear n0_ n1_ n2_ n3_ hb; have hcz1_0 : w1.cell? ⟨g, 0, none⟩ = some (.int .i64 n) := (blk_cell BK.out 0).trans rfl; have hcz1_1 : w1.cell? ⟨g, 1, none⟩ = some (.slice A hs.length c) := (blk_cell BK.out 1).trans rfl; have hfz1_0 := blk_frozen BK.out 0; have hfz1_1 := blk_frozen BK.out 1)
    have HS := Aside0.mk (rfl : (Value.slice A hs.length c).ownBlock = (Value.slice A hs.length c).ownBlock)
    go_loopg [4, 5, 6] 64 (fun kq v4 v5 v6 w' => ∃ (x4 : ByteArray) (xs : List ByteArray) (x5 : Int) (Ao : Option Addr) (co : Nat), v4 = .string x4 ∧ v5 = .int .i64 x5 ∧ Aside0 (addL kq xs x5 x4 = some (hs2, t2)) ∧ Aside0 (kq ≤ 64) ∧ Aside0 (Kd.R Kd.string 9 w' w0.heap.size (fun k => k ≠ g) (.slice Ao xs.length co) xs) ∧ Aside0 ((Value.slice Ao xs.length co).ownBlock = (Value.slice A hs.length c).ownBlock) ∧ Aside0 (w'.heap[g]? = some (.cells #[.int .i64 n, .slice Ao xs.length co] 32 (0, 0))) ∧ Aside0 (Below w0.heap.size w0 w') ∧ Aside0 (Kept w w' (fun k => k = g ∨ some k = (Value.slice A hs.length c).ownBlock)))
    case atStart => exact ⟨t, hs, n, A, c, rfl, rfl, H', ⟨Nat.le_refl _⟩, HO, HS, BK, HB, HKP⟩
    case round =>
      clear H' HO HS BK HB HKP hcz1_0 hcz1_1 hfz1_0 hfz1_1
      obtain ⟨x4, xs, x5, Ao, co, rfl, rfl, HA, HK1, HO, HS, BK, HB, HKP⟩ := hrel
      cases gk with
      | zero => exact absurd HA.out (by simp [addL])
      | succ k1 =>
        have H := HA.out
        clear HA
        simp only [addL] at H
        by_cases c14 : (Go.bits .and .i64 x5 1) = 1
        · rw [if_pos c14] at H
          have c14b0 : ((Go.bits .and .i64 x5 1) == 1) = true := beq_iff_eq.mpr c14
          have c14b1 : ((Go.bits .and .i64 x5 1) != 1) = false := bne_eq_false_iff_eq.mpr c14
          clear c14
          obtain ⟨ji, hji⟩ : ∃ j_ : Int, (wrap64 ((xs.length : Int) - 1)) = j_ := ⟨_, rfl⟩
          simp only [hji] at H
          have hjiw : (IntKind.i64.wrap ((xs.length : Int) - 1)) = ji := (i64_w _).trans hji
          by_cases c16 : 0 ≤ ji
          · rw [if_pos c16] at H
            by_cases c17 : ji < (xs.length : Int)
            · rw [if_pos c17] at H
              obtain ⟨t3, A180, H⟩ := Option.bind_eq_some_iff.mp H
              have A18 := Aside0.mk A180
              have H' := Aside0.mk H
              have c16b0 : decide (0 ≤ ji) = true := decide_eq_true c16
              have c17b0 : decide (ji < (xs.length : Int)) = true := decide_eq_true c17
              have c19b0 : decide (ji ≤ (xs.length : Int)) = true := decide_eq_true (by omega)
              have P1 := Aside0.mk c16
              have P2 := Aside0.mk c17
              clear H A180
              obtain ⟨ad, rfl, hx⟩ := Kd.at_string (Kd.R_reads' HO.out).2.2 ji c16 c17
              replace c16 := eq_true c16
              replace c17 := eq_true c17
              have hcz_0 : wr.cell? ⟨g, 0, none⟩ = some (.int .i64 n) := (blk_cell BK.out 0).trans rfl
              have hcz_1 : wr.cell? ⟨g, 1, none⟩ = some (.slice (some ad) xs.length co) := (blk_cell BK.out 1).trans rfl
              have hfz_0 := blk_frozen BK.out 0
              have hfz_1 := blk_frozen BK.out 1
              obtain ⟨ys, hys⟩ : ∃ ys, xs.take (ji : Int).toNat = ys := ⟨_, rfl⟩
              rw [hys] at H'
              have NY := Aside0.mk hys
              clear hys
              go_wp2_with ((with_reducible refine gate_callee (f := 78) rfl ?_); refine goesL_ (some 32) rfl rfl Try.func78 (by kernel_rfl) rfl #[.string (rdOf ByteArray.empty xs ji), .string x4] rfl (by (try simp only [List.map_toArray, List.map_cons, List.map_nil]); first | done | (simp only [hji]; rfl) | rfl) ?_; (with_reducible refine (impl_NodeHash.calls (rdOf ByteArray.empty xs ji) x4 t3 _ A18.out).mono ?_); rintro e w21 ⟨rfl, hb⟩; refine ⟨_, rfl, ?_⟩; have n0_ := Aside0.mk (Kd.R_below (by (with_reducible repeat (first | apply Kd.R_alloc | apply Kd.R_drewN | apply Kd.R_drew)); exact HO.out) hb); have n1_ := Aside0.mk (blk_below (g := g) (o := .cells #[.int .i64 n, .slice (some ad) xs.length co] 32 (0, 0)) (by (with_reducible repeat (first | refine blk_drewN ?_ _ | refine blk_drew ?_ | refine blk_alloc ?_ _)); exact BK.out) hb); have n2_ := Aside0.mk (below_step HB.out hb); have n3_ := Aside0.mk (HKP.out.below hb); clear HO BK HB HKP hcz_0 hcz_1 hfz_0 hfz_1; have HO := n0_; have BK := n1_; have HB := n2_; have HKP := n3_; clear n0_ n1_ n2_ n3_ hb; have hcz_0 : w21.cell? ⟨g, 0, none⟩ = some (.int .i64 n) := (blk_cell BK.out 0).trans rfl; have hcz_1 : w21.cell? ⟨g, 1, none⟩ = some (.slice (some ad) xs.length co) := (blk_cell BK.out 1).trans rfl; have hfz_0 := blk_frozen BK.out 0; have hfz_1 := blk_frozen BK.out 1; have q1_ := P1.out; have q2_ : ji ≤ (xs.length : Int) := Int.le_of_lt P2.out; obtain ⟨i0_, hi0_, _, hsz_, _⟩ := info_parts info9; have hcut22 := cut_to (P := Try.prog) 22 9 .i64 Try.underlying22 hi0_ (some ad) xs.length co ji q1_ q2_ (Kd.R_reads' HO.out).2.1; have hr22 := Kd.R_take (m := (ji : Int).toNat) HO.out (by omega); have hy22 : ys.length = (ji : Int).toNat := (by rw [← NY.out, List.length_take]; omega); rw [NY.out] at hr22; rw [← hy22] at hr22 hcut22; clear hy22 hi0_ hsz_ HO q1_ q2_; have HO := Aside0.mk hr22; clear hr22)
              go_roundg k1
              case measure => have := HK1.out; omega
              case rel => exact ⟨t3, ys, x5 / 2, some ad, co, (by first | rfl | (simp; done) | (simp [*]; done)), (by first | rfl | (simp; done) | (simp [*]; done)), H', ⟨by have := HK1.out; omega⟩, ⟨Kd.R_far (by (with_reducible repeat (first | apply Kd.R_alloc | apply Kd.R_drewN | apply Kd.R_drew)); exact HO.out) (fun _ hk => hk) _⟩, HS, ⟨blk_put (by (with_reducible repeat (first | refine blk_drewN ?_ _ | refine blk_drew ?_ | refine blk_alloc ?_ _)); exact BK.out) 1 _ rfl⟩, ⟨below_set (by repeat (first | (with_reducible first | exact HB.out | apply below_alloc | apply pw_below_drewN | apply below_drew1) | exact HB.out)) GE.out⟩, ⟨Kept.setCell (by first | exact HKP.out | exact HKP.out.drew | exact HKP.out.drewN _) (.inl (.inl rfl)) _⟩⟩
            · rw [if_neg c17] at H
              exact absurd H (by simp)
          · rw [if_neg c16] at H
            exact absurd H (by simp)
        · rw [if_neg c14] at H
          have c14b0 : ((Go.bits .and .i64 x5 1) == 1) = false := beq_eq_false_iff_ne.mpr c14
          have c14b1 : ((Go.bits .and .i64 x5 1) != 1) = true := bne_iff_ne.mpr c14
          clear c14
          simp only [Option.some.injEq, Prod.mk.injEq] at H
          obtain ⟨rfl, rfl⟩ := H
          have hcz_0 : wr.cell? ⟨g, 0, none⟩ = some (.int .i64 n) := (blk_cell BK.out 0).trans rfl
          have hcz_1 : wr.cell? ⟨g, 1, none⟩ = some (.slice Ao xs.length co) := (blk_cell BK.out 1).trans rfl
          have hfz_0 := blk_frozen BK.out 0
          have hfz_1 := blk_frozen BK.out 1
          go_wp2_with ((with_reducible refine gate_builtin (b := .append) (xs := #[.tmp 46, .tmp 48]) rfl ?_); (try (refine gate_guard (by rfl) ?_; dsimp only)); at_builtin; refine Kd.R_append Kd.string (w0 := w0) w0.heap.size rfl (.tmp 46) (.tmp 48) 22 9 (.string ⟨#[]⟩) 16 rfl Try.underlying22 info9 rfl (by decide) (by omega) (.slice Ao xs.length co) xs x4 [.string x4] (fun k => k ≠ g) (fun _ => False) rfl rfl ?aP (fun _ hk => hk.elim) ?aF ?aO ?aB ?aS ?aL ?_; (case aP => exact rfl); (case aB => exact HB.out); (case aF => exact (fun k hk e => by have := blk_lt BK.out; omega)); (case aO => exact HO.out); (case aS => exact HB.out.size); (case aL => have := LM.out; omega); intro v2 w2 ho hb hgr hat; have n0_ := Aside0.mk hb; have n1_ := Aside0.mk ho; have n2_ := Aside0.mk (Go.Proofs.YtnekmofpamnceaaW.PrintWords.blk_grown BK.out hgr (Kd.R_ne HO.out BK.out (by decide))); have n3_ := Aside0.mk (HKP.out.of_grown hgr (fun k hk => .inl (.inr (by rw [← HS.out]; exact hk.symm)))); clear HO BK HB HKP hcz_0 hcz_1 hfz_0 hfz_1; have HB := n0_; have HO := n1_; have BK := n2_; have HKP := n3_; clear n0_ n1_ n2_ n3_ ho hb hgr hat; obtain ⟨Ao2, co2, e2⟩ := Kd.R_slice HO.out; subst e2; have hcz_0 : w2.cell? ⟨g, 0, none⟩ = some (.int .i64 n) := (blk_cell BK.out 0).trans rfl; have hcz_1 : w2.cell? ⟨g, 1, none⟩ = some (.slice Ao xs.length co) := (blk_cell BK.out 1).trans rfl; have hfz_0 := blk_frozen BK.out 0; have hfz_1 := blk_frozen BK.out 1)
          refine bodyPost_end (results_none rfl _ _ _) rfl ?_
          have hl1 : (xs ++ [x4]).length = xs.length + 1 := by simp
          refine ⟨rfl, Ao2, co2, Kd.R_far (Kd.R_far HO.out (fun _ hk => hk) _) (fun _ hk => hk) _, ?_, below_set (below_set HB.out GE.out) GE.out, Kept.setCell (Kept.setCell HKP.out (.inl (.inl rfl)) _) (.inl (.inl rfl)) _⟩
          rw [hl1]
          exact blk_put (blk_put BK.out 1 _ rfl) 0 _ rfl
  · rw [if_neg hl] at h
    cases h
end Go.Proofs.Ytnekmofpamnceaa.Q

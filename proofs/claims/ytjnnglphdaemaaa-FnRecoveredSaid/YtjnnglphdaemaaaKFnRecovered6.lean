-- Joined and shortened by a program of this session (wip/tools/shakecopy.py): the words of the print, texts of pp.sh and of mine.
import Derived.Test.YtjnnglphdaemaaaKFnRecovered5
section
/- A store whose bytes are commits, one behind the other, to the end, is right; what Commit makes of a right store. -/
namespace Go.Proofs.Ytjnnglphdaemaaa.Q
open Go.RowKit Go.Proofs.Ytjnnglphdaemaaa.B Go.Proofs.YtjnnglphdaemaaaW.PrintWords Go.Proofs.YtjnnglphdaemaaaW.PrintMore
set_option linter.unusedVariables false
set_option linter.unusedSimpArgs false
theorem read_at {b : List Int} (hb : InB b) (hl : b.length ≤ 60000) {a N : Nat} {s : ByteArray} {x : List ByteArray} {r : List Int} (ha : a ≤ b.length) (e : b.drop a = commitB N s x ++ r) (hk : headOk (N : Int) s = true) (hx1 : 1 ≤ x.length) (hx2 : x.length ≤ 200) (hsm : ∀ y ∈ x, y.size ≤ 1000000000) :
  Ev (fun q => impl_GetCommit.f q b (a : Int)) ((N : Int), s, x, ((a + (commitB N s x).length : Nat) : Int), true) := by
 obtain ⟨n, s', x', nx, ok', f3, _, c1, c2⟩ := getCommitI b hb (by omega) (a : Int) (by omega) (by omega)
 cases hok : ok' with
 | false => exact absurd ((c2 hok).2.2.2.2 a N s x r rfl e hk hx1 hx2 hsm) (by simp)
 | true =>
  obtain ⟨a', N', g1, rfl, g2, g3, g4, g5, g6⟩ := c1 hok
  have ea : a' = a := by omega
  subst ea
  obtain ⟨rfl, rfl, rfl, _⟩ := commitB_inj (e.symm.trans g4)
  rw [hok, g5] at f3
  exact f3
theorem good_few {t : List IHead} {l : List ByteArray} {N : Nat} {s : ByteArray} {x : List ByteArray} (hg : Good t l N s x) : (l ++ x).length ≤ 200 := by
 have h1 := headOk_is hg.1
 have h2 := hg.2.2.2
 rw [List.length_append]
 omega
theorem replay_opened (t : List IHead) (b : List Int) (hb : InB b) (hl : b.length ≤ 60000) (T : List ByteArray) (N0 : Int) (S0 : ByteArray) (U : Int) {l : List ByteArray} {bs : List Int} {L : List ByteArray} {m : List Int} {c : Nat} (o : Opened t l bs L m c) :
  m = bs → L = T → ∀ a : Nat, bs = b.drop a → a ≤ b.length → l.length ≤ 200 → (∀ x ∈ l, x.size ≤ bigB) → Ev (fun k => impl_StoreOk.l0 k l (a : Int) T N0 S0 b U) true := by
 induction o with
 | @stop l bs h =>
  intro hm hT a e ha h1 h2
  have hz : (b.drop a).length = 0 := by rw [← e, ← hm]; rfl
  rw [List.length_drop] at hz
  refine Ev.step (fun k => by simp only [impl_StoreOk.l0]; rfl) ?_
  refine Ev.neg (by omega) (Ev.bind (impl_same_ev l T (by omega)) ?_)
  rw [decide_eq_true hT]
  exact Ev.now _
 | @step l r L m c N s x hk hx1 hx2 hsm hg o ih =>
  intro hm hT a e ha h1 h2
  obtain ⟨e1, e2⟩ := take_more ha e.symm
  have hlen := commit_pos N s x
  have hdl : (b.drop a).length = b.length - a := List.length_drop
  have hcl : (commitB N s x).length ≤ b.length - a := by
   rw [← hdl, ← e, List.length_append]
   omega
  have w1 := commitB_length N s x
  have w2 := bodyB_ge N s x
  have htx : ∀ y ∈ x, y.size ≤ bigB := fun y hy => by
   have w3 := total_mem hy
   unfold bigB
   omega
  have hfew := good_few hg
  have hgh := hg.2.2.1
  unfold isHead at hgh
  have hi := ih (List.append_cancel_left hm) hT (a + (commitB N s x).length) e2 (by omega) hfew (sizes_app h2 htx)
  refine Ev.step (fun k => by simp only [impl_StoreOk.l0]; rfl) ?_
  refine Ev.pos (by omega) (Ev.bind (read_at hb hl ha e.symm hk hx1 hx2 hsm) ?_)
  simp only
  refine Ev.pos (by rw [List.length_append] at hfew; omega) ?_
  simp only [Option.bind_some]
  refine Ev.pos trivial (Ev.bind (impl_HeadOf_ev (l ++ x) (sizes_app h2 htx)) (Ev.neg ?_ hi))
  rw [ne_head, hgh]
  simp
theorem opened_sizes {t : List IHead} {l : List ByteArray} {bs : List Int} {L : List ByteArray} {m : List Int} {c : Nat} (o : Opened t l bs L m c) : bs.length ≤ 60000 → l.length ≤ 200 → (∀ x ∈ l, x.size ≤ bigB) → L.length ≤ 200 ∧ (∀ x ∈ L, x.size ≤ bigB) := by
 induction o with
 | stop h => exact fun _ h1 h2 => ⟨h1, h2⟩
 | @step l r L m c N s x hk hx1 hx2 hsm hg o ih =>
  intro h0 h1 h2
  rw [List.length_append] at h0
  have w1 := commitB_length N s x
  have w2 := bodyB_ge N s x
  exact ih (by omega) (good_few hg) (sizes_app h2 (fun y hy => by
   have w3 := total_mem hy
   unfold bigB
   omega))
theorem storeOk_opened (t : List IHead) (b : List Int) (hb : InB b) (hl : b.length ≤ 60000) {L : List ByteArray} {c : Nat} (o : Opened t [] b L b c) (u : Int) (h0 : 0 ≤ u) (h1 : u ≤ b.length) : Ev (fun k => impl_StoreOk.f k L (headOf L).1 (headOf L).2 b u) true := by
 obtain ⟨hL, hs⟩ := opened_sizes o hl (by simp) (by simp)
 unfold impl_StoreOk.f
 refine Ev.bind (impl_LogOk_ev L _ _ hs) (Ev.pos (logOk_head hL) (Ev.neg (by omega) (Ev.bind (Ev.const (impl_in_eq _ _ _)) ?_)))
 rw [decide_eq_true ⟨h0, h1⟩]
 refine Ev.step (fun k => by simp only [impl_StoreOk.j0]; rfl) ?_
 exact Ev.neg (by simp) (replay_opened t b hb hl L _ _ u o rfl rfl 0 rfl (by omega) (by simp) (by simp))
theorem opened_nil (t : List IHead) (l : List ByteArray) : Opened t l [] l [] 0 := .stop (fun N s x r e _ _ _ _ _ => by
 have := commit_pos N s x
 have h2 : ([] : List Int).length = (commitB N s x ++ r).length := by rw [← e]
 rw [List.length_append, List.length_nil] at h2
 omega)
theorem opened_self {t : List IHead} {l : List ByteArray} {bs : List Int} {L : List ByteArray} {m : List Int} {c : Nat} (o : Opened t l bs L m c) : Opened t l m L m c := by
 induction o with
 | stop h => exact opened_nil t _
 | step hk h1 h2 hs hg _ ih => exact .step hk h1 h2 hs hg ih
theorem opened_more {t : List IHead} {l : List ByteArray} {b : List Int} {L : List ByteArray} {m : List Int} {c : Nat} (o : Opened t l b L m c) : m = b → ∀ {N : Nat} {s : ByteArray} {x : List ByteArray}, 1 ≤ x.length → x.length ≤ 200 → (∀ y ∈ x, y.size ≤ 1000000000) → Good t L N s x → Opened t l (b ++ commitB N s x) (L ++ x) (b ++ commitB N s x) (c + 1) := by
 induction o with
 | @stop l bs h =>
  intro hm N s x h1 h2 h3 hg
  subst hm
  have := Opened.step hg.1 h1 h2 h3 hg (opened_nil t (l ++ x))
  rw [List.append_nil] at this
  rw [List.nil_append]
  exact this
 | @step l r L m c N' s' x' hk hx1 hx2 hsm hg' o ih =>
  intro hm N s x h1 h2 h3 hg
  have e := List.append_cancel_left hm
  have := Opened.step hk hx1 hx2 hsm hg' (ih e h1 h2 h3 hg)
  rw [← List.append_assoc] at this
  exact this
end Go.Proofs.Ytjnnglphdaemaaa.Q
end

section
-- Written by a program of this session (wip/tools/pp.sh) over the print of the kit.
namespace Go.Proofs.Ytjnnglphdaemaaa.Q
open Go.RowKit Go.Proofs.YtjnnglphdaemaaaW.PrintWords Go.Proofs.YtjnnglphdaemaaaW.PrintLast Go.Proofs.YtjnnglphdaemaaaW.PrintMore
attribute [local go_sem] max2_int min2_int max_two min_two max_three min_three max_four min_four   -- for this text's walks alone
set_option linter.unusedVariables false
set_option linter.unusedSimpArgs false
def IsS111 (w0 W : World) (g : Nat) (f0 : List Int) (f1 : Int) (f2 : Int) : Prop := ∃ A0 c0, W.heap[g]? = some (.cells #[.slice A0 f0.length c0, .int .i64 f1, .int .i64 f2] 111 (0, 0)) ∧ w0.heap.size ≤ g ∧ Kd.C (Kd.int .u8) w0 A0 f0.length f0 ∧ f0.length ≤ c0
theorem IsS111.grown {w0 W : World} {g : Nat} {f0 : List Int} {f1 : Int} {f2 : Int} {W1 : World} {row : Option Nat} (h : IsS111 w0 W g f0 f1 f2) (hw : W.grownBy W1 row) (hne : some g ≠ row) : IsS111 w0 W1 g f0 f1 f2 := by
 obtain ⟨A0, c0, hb, hg, hr0, hq0⟩ := h
 exact ⟨A0, c0, blk_grown hb hw hne, hg, hr0, hq0⟩
theorem IsS111.kept {w0 W : World} {g : Nat} {f0 : List Int} {f1 : Int} {f2 : Int} {W1 : World} {S : Nat → Prop} (h : IsS111 w0 W g f0 f1 f2) (hk : Kept W W1 S) (hne : ¬ S g) : IsS111 w0 W1 g f0 f1 f2 := by
 obtain ⟨A0, c0, hb, hg, hr0, hq0⟩ := h
 exact ⟨A0, c0, blk_kept hb hk hne, hg, hr0, hq0⟩
theorem IsS111.below {w0 W : World} {g : Nat} {f0 : List Int} {f1 : Int} {f2 : Int} {W1 : World} (h : IsS111 w0 W g f0 f1 f2) (hw : Below W.heap.size W W1) : IsS111 w0 W1 g f0 f1 f2 := h.grown (grown_of_below hw none) (by simp)
theorem IsS111.alloc {w0 W : World} {g : Nat} {f0 : List Int} {f1 : Int} {f2 : Int} (h : IsS111 w0 W g f0 f1 f2) (o : Obj) : IsS111 w0 (W.alloc o) g f0 f1 f2 := h.below (below_alloc (Below.refl _ _) o)
theorem IsS111.drewN {w0 W : World} {g : Nat} {f0 : List Int} {f1 : Int} {f2 : Int} (h : IsS111 w0 W g f0 f1 f2) (m : Nat) : IsS111 w0 (W.drewN m) g f0 f1 f2 := h
theorem IsS111.drew {w0 W : World} {g : Nat} {f0 : List Int} {f1 : Int} {f2 : Int} (h : IsS111 w0 W g f0 f1 f2) : IsS111 w0 W.drew g f0 f1 f2 := h
theorem IsS111.at_ {w0 W : World} {g : Nat} {f0 : List Int} {f1 : Int} {f2 : Int} {w' : World} {m : Nat} (hq : W.drewN m = w') (h : IsS111 w0 W g f0 f1 f2) : IsS111 w0 w' g f0 f1 f2 := by subst hq; exact IsS111.drewN h m
theorem IsS111.apart {w0 W : World} {g : Nat} {f0 : List Int} {f1 : Int} {f2 : Int} {α : Type} {d : Kd α} {e : Nat} {base : Nat} {ok : Nat → Prop} {v : Value} {xs : List α} (h : IsS111 w0 W g f0 f1 f2) (ho : d.R e W base ok v xs) (ht : ∀ q, q ∈ e :: d.E → q ≠ 111) : d.R e W base (fun k => ok k ∧ k ≠ g) v xs := by
 obtain ⟨A0, c0, hb, hg, hr0, hq0⟩ := h
 exact Kd.R_types ho hb ht
theorem IsS111.own_ne {w0 W : World} {g : Nat} {f0 : List Int} {f1 : Int} {f2 : Int} {α : Type} {d : Kd α} {e : Nat} {base : Nat} {ok : Nat → Prop} {v : Value} {xs : List α} (h : IsS111 w0 W g f0 f1 f2) (ho : d.R e W base ok v xs) (ht : e ≠ 111) : some g ≠ v.ownBlock := by
 obtain ⟨A0, c0, hb, hg, hr0, hq0⟩ := h
 exact Kd.R_ne ho hb ht
theorem IsS111.lt {w0 W : World} {g : Nat} {f0 : List Int} {f1 : Int} {f2 : Int} (h : IsS111 w0 W g f0 f1 f2) : g < W.heap.size := by
 obtain ⟨A0, c0, hb, hg, hr0, hq0⟩ := h
 exact blk_lt hb
theorem IsS111.ge {w0 W : World} {g : Nat} {f0 : List Int} {f1 : Int} {f2 : Int} (h : IsS111 w0 W g f0 f1 f2) : w0.heap.size ≤ g := by
 obtain ⟨A0, c0, hb, hg, hr0, hq0⟩ := h
 exact hg
theorem IsS111.ne_blk {w0 W : World} {g : Nat} {f0 : List Int} {f1 : Int} {f2 : Int} {a : Nat} {cs : Array Value} {t : TypeId} {fr : Nat × Nat} (h : IsS111 w0 W g f0 f1 f2) (hb2 : W.heap[a]? = some (.cells cs t fr)) (ht : t ≠ 111) : g ≠ a := by
 obtain ⟨A0, c0, hb, hg, hr0, hq0⟩ := h
 rintro rfl
 rw [hb] at hb2
 injection hb2 with hb2
 injection hb2 with _ ht2
 exact ht ht2.symm
theorem IsS111.far {w0 W : World} {g : Nat} {f0 : List Int} {f1 : Int} {f2 : Int} {p : Addr} (h : IsS111 w0 W g f0 f1 f2) (hne : g ≠ p.block) (u : Value) : IsS111 w0 (W.setCell p u) g f0 f1 f2 := by
 obtain ⟨A0, c0, hb, hg, hr0, hq0⟩ := h
 exact ⟨A0, c0, blk_far hb hne u, hg, hr0, hq0⟩
theorem cellS111_0 {W : World} {g : Nat} {A0 : Option Addr} {c0 : Nat} {f0 : List Int} {f1 : Int} {f2 : Int} (h : W.heap[g]? = some (.cells #[.slice A0 f0.length c0, .int .i64 f1, .int .i64 f2] 111 (0, 0))) : W.cell? ⟨g, 0, none⟩ = some (.slice A0 f0.length c0) := (blk_cell h 0).trans rfl
theorem cellS111_1 {W : World} {g : Nat} {A0 : Option Addr} {c0 : Nat} {f0 : List Int} {f1 : Int} {f2 : Int} (h : W.heap[g]? = some (.cells #[.slice A0 f0.length c0, .int .i64 f1, .int .i64 f2] 111 (0, 0))) : W.cell? ⟨g, 1, none⟩ = some (.int .i64 f1) := (blk_cell h 1).trans rfl
theorem IsS111.set_1 {w0 W : World} {g : Nat} {f0 : List Int} {f1 : Int} {f2 : Int} (h : IsS111 w0 W g f0 f1 f2) (x : Int) : IsS111 w0 (W.setCell ⟨g, 1, none⟩ (.int .i64 x)) g f0 x f2 := by
 obtain ⟨A0, c0, hb, hg, hr0, hq0⟩ := h
 exact ⟨A0, c0, by simpa using blk_set hb 1 (.int .i64 x), hg, hr0, hq0⟩
theorem cellS111_2 {W : World} {g : Nat} {A0 : Option Addr} {c0 : Nat} {f0 : List Int} {f1 : Int} {f2 : Int} (h : W.heap[g]? = some (.cells #[.slice A0 f0.length c0, .int .i64 f1, .int .i64 f2] 111 (0, 0))) : W.cell? ⟨g, 2, none⟩ = some (.int .i64 f2) := (blk_cell h 2).trans rfl
theorem IsS111.set_2 {w0 W : World} {g : Nat} {f0 : List Int} {f1 : Int} {f2 : Int} (h : IsS111 w0 W g f0 f1 f2) (x : Int) : IsS111 w0 (W.setCell ⟨g, 2, none⟩ (.int .i64 x)) g f0 f1 x := by
 obtain ⟨A0, c0, hb, hg, hr0, hq0⟩ := h
 exact ⟨A0, c0, by simpa using blk_set hb 2 (.int .i64 x), hg, hr0, hq0⟩
theorem IsS111.new (w0 W : World) (A0 : Option Addr) (c0 : Nat) (f0 : List Int) (f1 : Int) (f2 : Int) (hB : Below w0.heap.size w0 W) (hr0 : Kd.C (Kd.int .u8) w0 A0 f0.length f0) (hq0 : f0.length ≤ c0) : IsS111 w0 (W.alloc (.cells #[.slice A0 f0.length c0, .int .i64 f1, .int .i64 f2] 111)) W.heap.size f0 f1 f2 := ⟨A0, c0, by simpa using heap_alloc_new W _, hB.size, hr0, hq0⟩
def spec_l1New.l0 : Nat → List Int → Int → Int → Option (List Int × Int × Int)
 | 0, _, _, _ => none
 | k + 1, x0, x3, x4 => if x4 < (x0.length : Int) then (if x4 < 4000 then (if 0 ≤ x4 then (spec_l1New.l0 k x0 (Go.bits .and .i64 (wrap64 ((wrap64 ((wrap64 (x3 * 137)) + (wrap64 (rd x0 x4)))) + 11)) 1073741823) (wrap64 (x4 + 1))) else (none)) else (some (x0, 0, x3))) else (some (x0, 0, x3))
def spec_l1New.f (k : Nat) (l0 : List Int) : Option (List Int × Int × Int) := spec_l1New.l0 k l0 (wrap64 (372372 + (l0.length : Int))) 0
set_option maxHeartbeats 8000000 in
set_option maxRecDepth 100000 in
theorem spec_l1New.calls (k : Nat) (A0 : Option Addr) (c0 : Nat) (l0 : List Int) (r1 : List Int) (r2 : Int) (r3 : Int) (w0 w : World) (hB : Below w0.heap.size w0 w) (hr0 : Kd.C (Kd.int .u8) w0 A0 l0.length l0) (hc0 : l0.length ≤ c0) (h : spec_l1New.f k l0 = some (r1, r2, r3)) :
  Calls Try.prog 59 #[.slice A0 l0.length c0] w fun e w' => ∃ g_ : Nat, e = .returned (.pointer (some ⟨g_, 0, none⟩)) ∧ IsS111 w0 w' g_ r1 r2 r3 ∧ Below w0.heap.size w0 w' ∧ Below w.heap.size w w' := by
 have hu111 := Try.underlying111
 have HR0 := Aside0.mk hr0
 have HC0 := Aside0.mk hc0
 clear hr0 hc0
 have HBW := Aside0.mk (Below.refl w.heap.size w)
 have HW0 := Aside0.mk hB.size
 have HB := Aside0.mk hB
 clear hB
 have H : (spec_l1New.l0 k l0 (wrap64 (372372 + (l0.length : Int))) 0) = some (r1, r2, r3) := h
 clear h
 have H' := Aside0.mk H
 clear H
 go_enter Try.func59, Try.ntmps59
 go_wp2
 go_loopg [3, 4] k (fun kq v3 v4 w' => ∃ (x3_1 : Int) (x4_1 : Int), v3 = .int .i64 x3_1 ∧ v4 = .int .i64 x4_1 ∧ Aside0 (spec_l1New.l0 kq l0 x3_1 x4_1 = some (r1, r2, r3)) ∧ Aside0 (kq ≤ k) ∧ Aside0 (Below w0.heap.size w0 w') ∧ Aside0 (Below w.heap.size w w'))
 case atStart => exact ⟨(wrap64 (372372 + (l0.length : Int))), (0), e1_, e1_, H', ⟨Nat.le_refl _⟩, ⟨bw_ HB⟩, ⟨by repeat (first | (with_reducible first | exact HBW.out | apply below_alloc | apply pw_below_drewN | apply below_drew1) | exact HBW.out)⟩⟩
 case round =>
  clear H'
  obtain ⟨x3_1, x4_1, rfl, rfl, HA, HK1, HB, HBW⟩ := hrel
  cases gk with
  | zero => exact absurd HA.out (by simp [spec_l1New.l0])
  | succ k1 =>
   have H := HA.out
   clear HA
   simp only [spec_l1New.l0] at H
   replace H := itd_ H; obtain ⟨c2b0, H⟩ | ⟨c2b0, H⟩ := H
   ·replace H := itd_ H; obtain ⟨c3b0, H⟩ | ⟨c3b0, H⟩ := H
    ·replace H := ipd_ H; obtain ⟨c4b0, H⟩ := H
     have H' := Aside0.mk H
     clear H
     have p601 : 0 ≤ (x4_1 : Int) := of_decide_eq_true as_
     have q601 : x4_1 < (l0.length : Int) := of_decide_eq_true as_
     obtain ⟨ad601, e601, hx601_0⟩ := Kd.at_int HR0.out x4_1 p601 q601
     cases e601
     replace hx601_0 := pw_cell_below HB.out hx601_0
     replace p601 := eq_true p601
     replace q601 := eq_true q601
     go_wp2
     go_roundg k1
     case measure => have := HK1.out; omega
     case rel => exact ⟨(Go.bits .and .i64 (wrap64 ((wrap64 ((wrap64 (x3_1 * 137)) + (wrap64 (rd l0 x4_1)))) + 11)) 1073741823), (wrap64 (x4_1 + 1)), e1_, e1_, H', ⟨by have := HK1.out; omega⟩, ⟨bw_ HB⟩, ⟨by repeat (first | (with_reducible first | exact HBW.out | apply below_alloc | apply pw_below_drewN | apply below_drew1) | exact HBW.out)⟩⟩
    ·replace H := so3_ H; obtain ⟨rfl, rfl, rfl⟩ := H
     go_wp2_with (first | ((with_reducible refine gd_ 31 ?_); refine bx_ 31 111 #[.slice A0 l0.length c0, .int .i64 0, .int .i64 x3_1] ?_; intro gb602 hg w5 hbox hb; replace HB := ss_ HB hb; have BK602 := Aside0.mk hbox; have GW602 := Aside0.mk ((by rw [hg]; exact (below_size (by repeat (first | (with_reducible first | exact HBW.out | apply below_alloc | apply pw_below_drewN | apply below_drew1) | exact HBW.out))) : w.heap.size ≤ gb602)); have GE602 := Aside0.mk ((Nat.le_trans HW0.out (by rw [hg]; exact (below_size (by repeat (first | (with_reducible first | exact HBW.out | apply below_alloc | apply pw_below_drewN | apply below_drew1) | exact HBW.out))) : w.heap.size ≤ gb602) : w0.heap.size ≤ gb602)); replace HBW := Aside0.mk (below_step HBW.out hb); clear hb hbox hg))
     go_ret
     exact ⟨_, rfl, (show IsS111 w0 _ gb602 l0 0 x3_1 from ⟨_, _, kb_ BK602.out, GE602.out, HR0.out, HC0.out⟩), bw_ HB, by repeat (first | (with_reducible first | exact HBW.out | apply below_alloc | apply pw_below_drewN | apply below_drew1 | refine below_set ?_ GW602.out) | exact HBW.out)⟩
   ·replace H := so3_ H; obtain ⟨rfl, rfl, rfl⟩ := H
    go_wp2_with (first | ((with_reducible refine gd_ 31 ?_); refine bx_ 31 111 #[.slice A0 l0.length c0, .int .i64 0, .int .i64 x3_1] ?_; intro gb603 hg w6 hbox hb; replace HB := ss_ HB hb; have BK603 := Aside0.mk hbox; have GW603 := Aside0.mk ((by rw [hg]; exact (below_size (by repeat (first | (with_reducible first | exact HBW.out | apply below_alloc | apply pw_below_drewN | apply below_drew1) | exact HBW.out))) : w.heap.size ≤ gb603)); have GE603 := Aside0.mk ((Nat.le_trans HW0.out (by rw [hg]; exact (below_size (by repeat (first | (with_reducible first | exact HBW.out | apply below_alloc | apply pw_below_drewN | apply below_drew1) | exact HBW.out))) : w.heap.size ≤ gb603) : w0.heap.size ≤ gb603)); replace HBW := Aside0.mk (below_step HBW.out hb); clear hb hbox hg))
    go_ret
    exact ⟨_, rfl, (show IsS111 w0 _ gb603 l0 0 x3_1 from ⟨_, _, kb_ BK603.out, GE603.out, HR0.out, HC0.out⟩), bw_ HB, by repeat (first | (with_reducible first | exact HBW.out | apply below_alloc | apply pw_below_drewN | apply below_drew1 | refine below_set ?_ GW603.out) | exact HBW.out)⟩
end Go.Proofs.Ytjnnglphdaemaaa.Q
end

section
-- Written by a program of this session (wip/tools/pp.sh) over the print of the kit.
namespace Go.Proofs.Ytjnnglphdaemaaa.Q
open Go.RowKit Go.Proofs.YtjnnglphdaemaaaW.PrintWords Go.Proofs.YtjnnglphdaemaaaW.PrintLast Go.Proofs.YtjnnglphdaemaaaW.PrintMore
attribute [local go_sem] max2_int min2_int max_two min_two max_three min_three max_four min_four   -- for this text's walks alone
set_option linter.unusedVariables false
set_option linter.unusedSimpArgs false
def spec_l1Byte.f (s0_0 : List Int) (s0_1 : Int) (s0_2 : Int) : Option (Int × Int × Int) := if s0_1 < (s0_0.length : Int) then (if 0 ≤ s0_1 then (some (Go.bits .and .i64 (wrap64 ((Go.bits .and .i64 (Go.bits .xor .i64 ((wrap64 ((wrap64 (s0_2 * 6364136223846793005)) + 1442695040888963407)) / 8589934592) ((wrap64 ((wrap64 (s0_2 * 6364136223846793005)) + 1442695040888963407)) / 140737488355328)) 255) + (wrap64 (rd s0_0 s0_1)))) 255, wrap64 (s0_1 + 1), wrap64 ((wrap64 (s0_2 * 6364136223846793005)) + 1442695040888963407))) else (none)) else (some (Go.bits .and .i64 (Go.bits .xor .i64 ((wrap64 ((wrap64 (s0_2 * 6364136223846793005)) + 1442695040888963407)) / 8589934592) ((wrap64 ((wrap64 (s0_2 * 6364136223846793005)) + 1442695040888963407)) / 140737488355328)) 255, s0_1, wrap64 ((wrap64 (s0_2 * 6364136223846793005)) + 1442695040888963407)))
set_option maxHeartbeats 8000000 in
set_option maxRecDepth 100000 in
theorem spec_l1Byte.calls (g : Nat) (s0_0 : List Int) (s0_1 : Int) (s0_2 : Int) (r1 : Int) (r2 : Int) (r3 : Int) (w0 w : World) (hI : IsS111 w0 w g s0_0 s0_1 s0_2) (hB : Below w0.heap.size w0 w) (h : spec_l1Byte.f s0_0 s0_1 s0_2 = some (r1, r2, r3)) :
  Calls Try.prog 100 #[.pointer (some ⟨g, 0, none⟩)] w fun e w' => e = .returned (.int .i64 r1) ∧ IsS111 w0 w' g s0_0 r2 r3 ∧ Below w0.heap.size w0 w' ∧ KeepBut w w' g none := by
 have HI0 := Aside0.mk hI
 have HK := Aside0.mk (KeepBut.refl w g none)
 have HL := Aside0.mk hB.size
 clear hI
 have HW0 := Aside0.mk hB.size
 have HB := Aside0.mk hB
 clear hB
 have H : (if s0_1 < (s0_0.length : Int) then (if 0 ≤ s0_1 then (some (Go.bits .and .i64 (wrap64 ((Go.bits .and .i64 (Go.bits .xor .i64 ((wrap64 ((wrap64 (s0_2 * 6364136223846793005)) + 1442695040888963407)) / 8589934592) ((wrap64 ((wrap64 (s0_2 * 6364136223846793005)) + 1442695040888963407)) / 140737488355328)) 255) + (wrap64 (rd s0_0 s0_1)))) 255, wrap64 (s0_1 + 1), wrap64 ((wrap64 (s0_2 * 6364136223846793005)) + 1442695040888963407))) else (none)) else (some (Go.bits .and .i64 (Go.bits .xor .i64 ((wrap64 ((wrap64 (s0_2 * 6364136223846793005)) + 1442695040888963407)) / 8589934592) ((wrap64 ((wrap64 (s0_2 * 6364136223846793005)) + 1442695040888963407)) / 140737488355328)) 255, s0_1, wrap64 ((wrap64 (s0_2 * 6364136223846793005)) + 1442695040888963407)))) = some (r1, r2, r3) := h
 clear h
 replace H := itd_ H; obtain ⟨c2b0, H⟩ | ⟨c2b0, H⟩ := H
 ·replace H := ipd_ H; obtain ⟨c3b0, H⟩ := H
  replace H := so3_ H; obtain ⟨rfl, rfl, rfl⟩ := H
  obtain ⟨ASz4_0, cSz4_0, HGz4, hgz4, HSz4_0, HSQz4_0⟩ := HI0.out
  have hcz4_0 := cellS111_0 HGz4
  have hcz4_1 := cellS111_1 HGz4
  have hcz4_2 := cellS111_2 HGz4
  have hfz4_1 := blk_frozen HGz4 1
  have hfz4_2 := blk_frozen HGz4 2
  clear HGz4 hgz4
  have p601 : 0 ≤ (s0_1 : Int) := of_decide_eq_true as_
  have q601 : s0_1 < (s0_0.length : Int) := of_decide_eq_true as_
  obtain ⟨ad601, e601, hx601_0⟩ := Kd.at_int HSz4_0 s0_1 p601 q601
  cases e601
  have hn601_0 : ad601.block ≠ g := Nat.ne_of_lt (Nat.lt_of_lt_of_le (by have := World.block_lt_of_cell? _ _ hx601_0; first | rwa [add_block] at this | exact this) (IsS111.ge HI0.out))
  replace hx601_0 := pw_cell_below HB.out hx601_0
  replace hx601_0 := (cell_far (p := ⟨g, 2, none⟩) (by first | (rw [add_block]; exact hn601_0) | (show (Addr.add _ _).block ≠ _; rw [add_block]; exact hn601_0) | exact hn601_0) (.int .i64 (wrap64 ((wrap64 (s0_2 * 6364136223846793005)) + 1442695040888963407)))).trans hx601_0
  (try have hy601_0 := fun (n_ : Nat) => (show (((w.drewN n_).setCell ⟨g, 2, none⟩ (.int .i64 (wrap64 ((wrap64 (s0_2 * 6364136223846793005)) + 1442695040888963407))))).cell? _ = some _ from hx601_0))
  clear hn601_0
  replace p601 := eq_true p601
  replace q601 := eq_true q601
  go_enter Try.func100, Try.ntmps100
  go_wp2
  repeat (go_quiet (fail); try go_wp2)
  go_ret
  exact ⟨e2_, by repeat (first | (with_reducible first | exact HI0.out | apply IsS111.alloc | apply IsS111.drewN | apply IsS111.drew | apply IsS111.set_1 | apply IsS111.set_2) | exact HI0.out), by repeat (first | (with_reducible first | exact HB.out | apply below_alloc | apply pw_below_drewN | apply below_drew1 | refine below_set ?_ (IsS111.ge HI0.out)) | exact HB.out), by repeat (first | (with_reducible first | exact HK.out | apply KeepBut.set_ | apply keep_drewN | apply keep_drew | apply keep_alloc) | exact HK.out)⟩
 ·replace H := so3_ H; obtain ⟨rfl, rfl, rfl⟩ := H
  obtain ⟨ASz5_0, cSz5_0, HGz5, hgz5, HSz5_0, HSQz5_0⟩ := HI0.out
  have hcz5_0 := cellS111_0 HGz5
  have hcz5_1 := cellS111_1 HGz5
  have hcz5_2 := cellS111_2 HGz5
  have hfz5_1 := blk_frozen HGz5 1
  have hfz5_2 := blk_frozen HGz5 2
  clear HGz5 hgz5
  go_enter Try.func100, Try.ntmps100
  go_wp2
  repeat (go_quiet (fail); try go_wp2)
  go_ret
  exact ⟨e2_, by repeat (first | (with_reducible first | exact HI0.out | apply IsS111.alloc | apply IsS111.drewN | apply IsS111.drew | apply IsS111.set_1 | apply IsS111.set_2) | exact HI0.out), by repeat (first | (with_reducible first | exact HB.out | apply below_alloc | apply pw_below_drewN | apply below_drew1 | refine below_set ?_ (IsS111.ge HI0.out)) | exact HB.out), by repeat (first | (with_reducible first | exact HK.out | apply KeepBut.set_ | apply keep_drewN | apply keep_drew | apply keep_alloc) | exact HK.out)⟩
end Go.Proofs.Ytjnnglphdaemaaa.Q
end

section
-- Written by a program of this session (wip/tools/pp.sh) over the print of the kit.
namespace Go.Proofs.Ytjnnglphdaemaaa.Q
open Go.RowKit Go.Proofs.YtjnnglphdaemaaaW.PrintWords Go.Proofs.YtjnnglphdaemaaaW.PrintLast Go.Proofs.YtjnnglphdaemaaaW.PrintMore
attribute [local go_sem] max2_int min2_int max_two min_two max_three min_three max_four min_four   -- for this text's walks alone
set_option linter.unusedVariables false
set_option linter.unusedSimpArgs false
def spec_l1Below.f (s0_0 : List Int) (s0_1 : Int) (s0_2 : Int) (a1 : Int) : Option (Int × Int × Int) := if a1 ≤ 0 then (some (0, s0_1, s0_2)) else (if a1 ≤ 256 then ((spec_l1Byte.f s0_0 s0_1 s0_2).bind fun bt601 => (if a1 = 0 then (none) else (some (Int.tmod bt601.1 a1, bt601.2.1, bt601.2.2)))) else ((spec_l1Byte.f s0_0 s0_1 s0_2).bind fun bt604 => ((spec_l1Byte.f s0_0 bt604.2.1 bt604.2.2).bind fun bt607 => ((spec_l1Byte.f s0_0 bt607.2.1 bt607.2.2).bind fun bt610 => (if a1 = 0 then (none) else (some (Int.tmod (wrap64 ((wrap64 ((wrap64 (bt604.1 * 65536)) + (wrap64 (bt607.1 * 256)))) + bt610.1)) a1, bt610.2.1, bt610.2.2)))))))
set_option maxHeartbeats 8000000 in
set_option maxRecDepth 100000 in
theorem spec_l1Below.calls (g : Nat) (s0_0 : List Int) (s0_1 : Int) (s0_2 : Int) (a1 : Int) (r1 : Int) (r2 : Int) (r3 : Int) (w0 w : World) (hI : IsS111 w0 w g s0_0 s0_1 s0_2) (hB : Below w0.heap.size w0 w) (h : spec_l1Below.f s0_0 s0_1 s0_2 a1 = some (r1, r2, r3)) :
  Calls Try.prog 61 #[.pointer (some ⟨g, 0, none⟩), .int .i64 a1] w fun e w' => e = .returned (.int .i64 r1) ∧ IsS111 w0 w' g s0_0 r2 r3 ∧ Below w0.heap.size w0 w' ∧ KeepBut w w' g none := by
 have HI0 := Aside0.mk hI
 have HK := Aside0.mk (KeepBut.refl w g none)
 have HL := Aside0.mk hB.size
 clear hI
 have HW0 := Aside0.mk hB.size
 have HB := Aside0.mk hB
 clear hB
 have H : (if a1 ≤ 0 then (some (0, s0_1, s0_2)) else (if a1 ≤ 256 then ((spec_l1Byte.f s0_0 s0_1 s0_2).bind fun bt601 => (if a1 = 0 then (none) else (some (Int.tmod bt601.1 a1, bt601.2.1, bt601.2.2)))) else ((spec_l1Byte.f s0_0 s0_1 s0_2).bind fun bt604 => ((spec_l1Byte.f s0_0 bt604.2.1 bt604.2.2).bind fun bt607 => ((spec_l1Byte.f s0_0 bt607.2.1 bt607.2.2).bind fun bt610 => (if a1 = 0 then (none) else (some (Int.tmod (wrap64 ((wrap64 ((wrap64 (bt604.1 * 65536)) + (wrap64 (bt607.1 * 256)))) + bt610.1)) a1, bt610.2.1, bt610.2.2)))))))) = some (r1, r2, r3) := h
 clear h
 replace H := itd_ H; obtain ⟨c3b0, H⟩ | ⟨c3b0, H⟩ := H
 ·replace H := so3_ H; obtain ⟨rfl, rfl, rfl⟩ := H
  go_enter Try.func61, Try.ntmps61
  go_wp2
  go_ret
  exact ⟨e2_, by repeat (first | (with_reducible first | exact HI0.out | apply IsS111.alloc | apply IsS111.drewN | apply IsS111.drew | apply IsS111.set_1 | apply IsS111.set_2) | exact HI0.out), by repeat (first | (with_reducible first | exact HB.out | apply below_alloc | apply pw_below_drewN | apply below_drew1 | refine below_set ?_ (IsS111.ge HI0.out)) | exact HB.out), by repeat (first | (with_reducible first | exact HK.out | apply KeepBut.set_ | apply keep_drewN | apply keep_drew | apply keep_alloc) | exact HK.out)⟩
 ·replace H := itd_ H; obtain ⟨c4b0, H⟩ | ⟨c4b0, H⟩ := H
  ·replace H := bi_ H; obtain ⟨⟨t601, t602, t603⟩, A5, H⟩ := H
   dsimp only at H
   replace H := in_ H; obtain ⟨c6, H⟩ := H
   have c6b0 : (a1 == 0) = false := beq_eq_false_iff_ne.mpr c6
   have c6b1 : (a1 != 0) = true := bne_iff_ne.mpr c6
   replace H := so3_ H; obtain ⟨rfl, rfl, rfl⟩ := H
   go_enter Try.func61, Try.ntmps61
   go_wp2_with (first | ((with_reducible refine gk_ 100 ?_); refine gl_ 13 Try.func100 #[.pointer (some ⟨g, 0, none⟩)] ?_; (with_reducible refine (spec_l1Byte.calls g s0_0 s0_1 s0_2 t601 t602 t603 w0 _ ?side1 ?side2 A5.out).mono ?_); (case side1 => repeat (first | (with_reducible first | exact HI0.out | apply IsS111.alloc | apply IsS111.drewN | apply IsS111.drew | apply IsS111.set_1 | apply IsS111.set_2) | exact HI0.out)); (case side2 => repeat (first | (with_reducible first | exact HB.out | apply below_alloc | apply pw_below_drewN | apply below_drew1 | refine below_set ?_ (IsS111.ge HI0.out)) | exact HB.out)); rintro e w7 ⟨rfl, hi, hb, hk⟩; refine ⟨_, rfl, ?_⟩; replace HK := Aside0.mk (KeepBut.trans (by repeat (first | (with_reducible first | exact HK.out | apply KeepBut.set_ | apply keep_drewN | apply keep_drew | apply keep_alloc) | exact HK.out)) hk (.inl rfl)); replace HB := Aside0.mk hb; replace HI0 := Aside0.mk hi; clear hb hk hi))
   go_ret
   exact ⟨e2_, by repeat (first | (with_reducible first | exact HI0.out | apply IsS111.alloc | apply IsS111.drewN | apply IsS111.drew | apply IsS111.set_1 | apply IsS111.set_2) | exact HI0.out), by repeat (first | (with_reducible first | exact HB.out | apply below_alloc | apply pw_below_drewN | apply below_drew1 | refine below_set ?_ (IsS111.ge HI0.out)) | exact HB.out), by repeat (first | (with_reducible first | exact HK.out | apply KeepBut.set_ | apply keep_drewN | apply keep_drew | apply keep_alloc) | exact HK.out)⟩
  ·replace H := bi_ H; obtain ⟨⟨t604, t605, t606⟩, A8, H⟩ := H
   dsimp only at H
   replace H := bi_ H; obtain ⟨⟨t607, t608, t609⟩, A9, H⟩ := H
   dsimp only at H
   replace H := bi_ H; obtain ⟨⟨t610, t611, t612⟩, A10, H⟩ := H
   dsimp only at H
   replace H := in_ H; obtain ⟨c11, H⟩ := H
   have c11b0 : (a1 == 0) = false := beq_eq_false_iff_ne.mpr c11
   have c11b1 : (a1 != 0) = true := bne_iff_ne.mpr c11
   replace H := so3_ H; obtain ⟨rfl, rfl, rfl⟩ := H
   go_enter Try.func61, Try.ntmps61
   go_wp2_with (first | ((with_reducible refine gk_ 100 ?_); refine gl_ 17 Try.func100 #[.pointer (some ⟨g, 0, none⟩)] ?_; (with_reducible refine (spec_l1Byte.calls g s0_0 s0_1 s0_2 t604 t605 t606 w0 _ ?side1 ?side2 A8.out).mono ?_); (case side1 => repeat (first | (with_reducible first | exact HI0.out | apply IsS111.alloc | apply IsS111.drewN | apply IsS111.drew | apply IsS111.set_1 | apply IsS111.set_2) | exact HI0.out)); (case side2 => repeat (first | (with_reducible first | exact HB.out | apply below_alloc | apply pw_below_drewN | apply below_drew1 | refine below_set ?_ (IsS111.ge HI0.out)) | exact HB.out)); rintro e w12 ⟨rfl, hi, hb, hk⟩; refine ⟨_, rfl, ?_⟩; replace HK := Aside0.mk (KeepBut.trans (by repeat (first | (with_reducible first | exact HK.out | apply KeepBut.set_ | apply keep_drewN | apply keep_drew | apply keep_alloc) | exact HK.out)) hk (.inl rfl)); replace HB := Aside0.mk hb; replace HI0 := Aside0.mk hi; clear hb hk hi) | ((with_reducible refine gk_ 100 ?_); refine gl_ 19 Try.func100 #[.pointer (some ⟨g, 0, none⟩)] ?_; (with_reducible refine (spec_l1Byte.calls g s0_0 t605 t606 t607 t608 t609 w0 _ ?side1 ?side2 A9.out).mono ?_); (case side1 => repeat (first | (with_reducible first | exact HI0.out | apply IsS111.alloc | apply IsS111.drewN | apply IsS111.drew | apply IsS111.set_1 | apply IsS111.set_2) | exact HI0.out)); (case side2 => repeat (first | (with_reducible first | exact HB.out | apply below_alloc | apply pw_below_drewN | apply below_drew1 | refine below_set ?_ (IsS111.ge HI0.out)) | exact HB.out)); rintro e w13 ⟨rfl, hi, hb, hk⟩; refine ⟨_, rfl, ?_⟩; replace HK := Aside0.mk (KeepBut.trans (by repeat (first | (with_reducible first | exact HK.out | apply KeepBut.set_ | apply keep_drewN | apply keep_drew | apply keep_alloc) | exact HK.out)) hk (.inl rfl)); replace HB := Aside0.mk hb; replace HI0 := Aside0.mk hi; clear hb hk hi) | ((with_reducible refine gk_ 100 ?_); refine gl_ 21 Try.func100 #[.pointer (some ⟨g, 0, none⟩)] ?_; (with_reducible refine (spec_l1Byte.calls g s0_0 t608 t609 t610 t611 t612 w0 _ ?side1 ?side2 A10.out).mono ?_); (case side1 => repeat (first | (with_reducible first | exact HI0.out | apply IsS111.alloc | apply IsS111.drewN | apply IsS111.drew | apply IsS111.set_1 | apply IsS111.set_2) | exact HI0.out)); (case side2 => repeat (first | (with_reducible first | exact HB.out | apply below_alloc | apply pw_below_drewN | apply below_drew1 | refine below_set ?_ (IsS111.ge HI0.out)) | exact HB.out)); rintro e w14 ⟨rfl, hi, hb, hk⟩; refine ⟨_, rfl, ?_⟩; replace HK := Aside0.mk (KeepBut.trans (by repeat (first | (with_reducible first | exact HK.out | apply KeepBut.set_ | apply keep_drewN | apply keep_drew | apply keep_alloc) | exact HK.out)) hk (.inl rfl)); replace HB := Aside0.mk hb; replace HI0 := Aside0.mk hi; clear hb hk hi))
   go_ret
   exact ⟨e2_, by repeat (first | (with_reducible first | exact HI0.out | apply IsS111.alloc | apply IsS111.drewN | apply IsS111.drew | apply IsS111.set_1 | apply IsS111.set_2) | exact HI0.out), by repeat (first | (with_reducible first | exact HB.out | apply below_alloc | apply pw_below_drewN | apply below_drew1 | refine below_set ?_ (IsS111.ge HI0.out)) | exact HB.out), by repeat (first | (with_reducible first | exact HK.out | apply KeepBut.set_ | apply keep_drewN | apply keep_drew | apply keep_alloc) | exact HK.out)⟩
end Go.Proofs.Ytjnnglphdaemaaa.Q
end

section
-- Written by a program of this session (wip/tools/pp.sh) over the print of the kit.
namespace Go.Proofs.Ytjnnglphdaemaaa.Q
open Go.RowKit Go.Proofs.YtjnnglphdaemaaaW.PrintWords Go.Proofs.YtjnnglphdaemaaaW.PrintLast Go.Proofs.YtjnnglphdaemaaaW.PrintMore
attribute [local go_sem] max2_int min2_int max_two min_two max_three min_three max_four min_four   -- for this text's walks alone
set_option linter.unusedVariables false
set_option linter.unusedSimpArgs false
def spec_l1Int.f (s0_0 : List Int) (s0_1 : Int) (s0_2 : Int) (l1 : List Int) : Option (Int × Int × Int) := (spec_l1Below.f s0_0 s0_1 s0_2 (l1.length : Int)).bind fun bt601 => (if 0 ≤ bt601.1 then (if bt601.1 < (l1.length : Int) then (some (rd l1 bt601.1, bt601.2.1, bt601.2.2)) else (none)) else (none))
set_option maxHeartbeats 8000000 in
set_option maxRecDepth 100000 in
theorem spec_l1Int.calls (g : Nat) (s0_0 : List Int) (s0_1 : Int) (s0_2 : Int) (A1 : Option Addr) (c1 : Nat) (l1 : List Int) (r1 : Int) (r2 : Int) (r3 : Int) (w0 w : World) (hI : IsS111 w0 w g s0_0 s0_1 s0_2) (hB : Below w0.heap.size w0 w) (hr1 : Kd.C (Kd.int .i64) w A1 l1.length l1) (hc1 : l1.length ≤ c1) (hf1 : ∀ ad, A1 = some ad → 0 < l1.length → ad.block ≠ g) (h : spec_l1Int.f s0_0 s0_1 s0_2 l1 = some (r1, r2, r3)) :
  Calls Try.prog 98 #[.pointer (some ⟨g, 0, none⟩), .slice A1 l1.length c1] w fun e w' => e = .returned (.int .i64 r1) ∧ IsS111 w0 w' g s0_0 r2 r3 ∧ Below w0.heap.size w0 w' ∧ KeepBut w w' g none := by
 have HR1 := Aside0.mk hr1
 have HC1 := Aside0.mk hc1
 clear hr1 hc1
 have HI0 := Aside0.mk hI
 have HK := Aside0.mk (KeepBut.refl w g none)
 have HL := Aside0.mk hB.size
 clear hI
 have HW0 := Aside0.mk hB.size
 have HB := Aside0.mk hB
 clear hB
 have H : ((spec_l1Below.f s0_0 s0_1 s0_2 (l1.length : Int)).bind fun bt601 => (if 0 ≤ bt601.1 then (if bt601.1 < (l1.length : Int) then (some (rd l1 bt601.1, bt601.2.1, bt601.2.2)) else (none)) else (none))) = some (r1, r2, r3) := h
 clear h
 replace H := bi_ H; obtain ⟨⟨t601, t602, t603⟩, A3, H⟩ := H
 dsimp only at H
 replace H := ipd_ H; obtain ⟨c4b0, H⟩ := H
 replace H := ipd_ H; obtain ⟨c5b0, H⟩ := H
 replace H := so3_ H; obtain ⟨rfl, rfl, rfl⟩ := H
 go_enter Try.func98, Try.ntmps98
 go_wp2_with (first | ((with_reducible refine gk_ 61 ?_); refine gl_ 9 Try.func61 #[.pointer (some ⟨g, 0, none⟩), .int .i64 (l1.length : Int)] ?_; (with_reducible refine (spec_l1Below.calls g s0_0 s0_1 s0_2 (l1.length : Int) t601 t602 t603 w0 _ ?side1 ?side2 A3.out).mono ?_); (case side1 => repeat (first | (with_reducible first | exact HI0.out | apply IsS111.alloc | apply IsS111.drewN | apply IsS111.drew | apply IsS111.set_1 | apply IsS111.set_2) | exact HI0.out)); (case side2 => repeat (first | (with_reducible first | exact HB.out | apply below_alloc | apply pw_below_drewN | apply below_drew1 | refine below_set ?_ (IsS111.ge HI0.out)) | exact HB.out)); rintro e w6 ⟨rfl, hi, hb, hk⟩; refine ⟨_, rfl, ?_⟩; replace HK := Aside0.mk (KeepBut.trans (by repeat (first | (with_reducible first | exact HK.out | apply KeepBut.set_ | apply keep_drewN | apply keep_drew | apply keep_alloc) | exact HK.out)) hk (.inl rfl)); replace HB := Aside0.mk hb; replace HI0 := Aside0.mk hi; clear hb hk hi; have p604 : 0 ≤ (t601 : Int) := of_decide_eq_true as_; have q604 : t601 < (l1.length : Int) := of_decide_eq_true as_; obtain ⟨ad604, e604, hx604_0⟩ := Kd.at_int HR1.out t601 p604 q604; cases e604; replace hx604_0 := keep_cell HK.out hx604_0 (by first | (rw [add_block]; exact hf1 _ rfl (by omega)) | exact hf1 _ rfl (by omega) | exact hf1 ad604 rfl (by omega)); replace p604 := eq_true p604; replace q604 := eq_true q604))
 go_ret
 exact ⟨e2_, by repeat (first | (with_reducible first | exact HI0.out | apply IsS111.alloc | apply IsS111.drewN | apply IsS111.drew | apply IsS111.set_1 | apply IsS111.set_2) | exact HI0.out), by repeat (first | (with_reducible first | exact HB.out | apply below_alloc | apply pw_below_drewN | apply below_drew1 | refine below_set ?_ (IsS111.ge HI0.out)) | exact HB.out), by repeat (first | (with_reducible first | exact HK.out | apply KeepBut.set_ | apply keep_drewN | apply keep_drew | apply keep_alloc) | exact HK.out)⟩
end Go.Proofs.Ytjnnglphdaemaaa.Q
end

section
-- Written by a program of this session (wip/tools/pp.sh) over the print of the kit.
namespace Go.Proofs.Ytjnnglphdaemaaa.Q
open Go.RowKit Go.Proofs.YtjnnglphdaemaaaW.PrintWords Go.Proofs.YtjnnglphdaemaaaW.PrintLast Go.Proofs.YtjnnglphdaemaaaW.PrintMore
attribute [local go_sem] max2_int min2_int max_two min_two max_three min_three max_four min_four   -- for this text's walks alone
set_option linter.unusedVariables false
set_option linter.unusedSimpArgs false
def spec_l1Str.f (s0_0 : List Int) (s0_1 : Int) (s0_2 : Int) (l1 : List ByteArray) : Option (ByteArray × Int × Int) := (spec_l1Below.f s0_0 s0_1 s0_2 (l1.length : Int)).bind fun bt601 => (if 0 ≤ bt601.1 then (if bt601.1 < (l1.length : Int) then (some (rdOf ByteArray.empty l1 bt601.1, bt601.2.1, bt601.2.2)) else (none)) else (none))
set_option maxHeartbeats 8000000 in
set_option maxRecDepth 100000 in
theorem spec_l1Str.calls (g : Nat) (s0_0 : List Int) (s0_1 : Int) (s0_2 : Int) (A1 : Option Addr) (c1 : Nat) (l1 : List ByteArray) (r1 : ByteArray) (r2 : Int) (r3 : Int) (w0 w : World) (hI : IsS111 w0 w g s0_0 s0_1 s0_2) (hB : Below w0.heap.size w0 w) (hr1 : Kd.C Kd.string w A1 l1.length l1) (hc1 : l1.length ≤ c1) (hf1 : ∀ ad, A1 = some ad → 0 < l1.length → ad.block ≠ g) (h : spec_l1Str.f s0_0 s0_1 s0_2 l1 = some (r1, r2, r3)) :
  Calls Try.prog 99 #[.pointer (some ⟨g, 0, none⟩), .slice A1 l1.length c1] w fun e w' => e = .returned (.string r1) ∧ IsS111 w0 w' g s0_0 r2 r3 ∧ Below w0.heap.size w0 w' ∧ KeepBut w w' g none := by
 have HR1 := Aside0.mk hr1
 have HC1 := Aside0.mk hc1
 clear hr1 hc1
 have HI0 := Aside0.mk hI
 have HK := Aside0.mk (KeepBut.refl w g none)
 have HL := Aside0.mk hB.size
 clear hI
 have HW0 := Aside0.mk hB.size
 have HB := Aside0.mk hB
 clear hB
 have H : ((spec_l1Below.f s0_0 s0_1 s0_2 (l1.length : Int)).bind fun bt601 => (if 0 ≤ bt601.1 then (if bt601.1 < (l1.length : Int) then (some (rdOf ByteArray.empty l1 bt601.1, bt601.2.1, bt601.2.2)) else (none)) else (none))) = some (r1, r2, r3) := h
 clear h
 replace H := bi_ H; obtain ⟨⟨t601, t602, t603⟩, A3, H⟩ := H
 dsimp only at H
 replace H := ipd_ H; obtain ⟨c4b0, H⟩ := H
 replace H := ipd_ H; obtain ⟨c5b0, H⟩ := H
 replace H := so3_ H; obtain ⟨rfl, rfl, rfl⟩ := H
 go_enter Try.func99, Try.ntmps99
 go_wp2_with (first | ((with_reducible refine gk_ 61 ?_); refine gl_ 9 Try.func61 #[.pointer (some ⟨g, 0, none⟩), .int .i64 (l1.length : Int)] ?_; (with_reducible refine (spec_l1Below.calls g s0_0 s0_1 s0_2 (l1.length : Int) t601 t602 t603 w0 _ ?side1 ?side2 A3.out).mono ?_); (case side1 => repeat (first | (with_reducible first | exact HI0.out | apply IsS111.alloc | apply IsS111.drewN | apply IsS111.drew | apply IsS111.set_1 | apply IsS111.set_2) | exact HI0.out)); (case side2 => repeat (first | (with_reducible first | exact HB.out | apply below_alloc | apply pw_below_drewN | apply below_drew1 | refine below_set ?_ (IsS111.ge HI0.out)) | exact HB.out)); rintro e w6 ⟨rfl, hi, hb, hk⟩; refine ⟨_, rfl, ?_⟩; replace HK := Aside0.mk (KeepBut.trans (by repeat (first | (with_reducible first | exact HK.out | apply KeepBut.set_ | apply keep_drewN | apply keep_drew | apply keep_alloc) | exact HK.out)) hk (.inl rfl)); replace HB := Aside0.mk hb; replace HI0 := Aside0.mk hi; clear hb hk hi; have p604 : 0 ≤ (t601 : Int) := of_decide_eq_true as_; have q604 : t601 < (l1.length : Int) := of_decide_eq_true as_; obtain ⟨ad604, e604, hx604_0⟩ := Kd.at_string HR1.out t601 p604 q604; cases e604; replace hx604_0 := keep_cell HK.out hx604_0 (by first | (rw [add_block]; exact hf1 _ rfl (by omega)) | exact hf1 _ rfl (by omega) | exact hf1 ad604 rfl (by omega)); replace p604 := eq_true p604; replace q604 := eq_true q604))
 go_ret
 exact ⟨e2_, by repeat (first | (with_reducible first | exact HI0.out | apply IsS111.alloc | apply IsS111.drewN | apply IsS111.drew | apply IsS111.set_1 | apply IsS111.set_2) | exact HI0.out), by repeat (first | (with_reducible first | exact HB.out | apply below_alloc | apply pw_below_drewN | apply below_drew1 | refine below_set ?_ (IsS111.ge HI0.out)) | exact HB.out), by repeat (first | (with_reducible first | exact HK.out | apply KeepBut.set_ | apply keep_drewN | apply keep_drew | apply keep_alloc) | exact HK.out)⟩
end Go.Proofs.Ytjnnglphdaemaaa.Q
end

section
/- Drawing out of bytes: what is drawn lies where it should. Plain. -/
namespace Go.Proofs.Ytjnnglphdaemaaa.Q
open Go.RowKit Go.Proofs.Ytjnnglphdaemaaa.B Go.Proofs.YtjnnglphdaemaaaW.PrintWords Go.Proofs.YtjnnglphdaemaaaW.PrintMore
set_option linter.unusedVariables false
set_option linter.unusedSimpArgs false
def Drawer (s : List Int) (i : Int) : Prop := 0 ≤ i ∧ i ≤ (s.length : Int) ∧ s.length ≤ 1048576
theorem mask255 (y : Int) : 0 ≤ Go.bits .and .i64 y 255 ∧ Go.bits .and .i64 y 255 ≤ 255 := by
 have h : (BitVec.ofInt 64 y &&& BitVec.ofInt 64 255).toNat ≤ 255 := by
  rw [BitVec.toNat_and]
  exact Nat.le_trans Nat.and_le_right (by decide)
 have e : Go.bits .and .i64 y 255 = IntKind.i64.wrap ((BitVec.ofInt 64 y &&& BitVec.ofInt 64 255).toNat : Int) := rfl
 generalize (BitVec.ofInt 64 y &&& BitVec.ofInt 64 255).toNat = m at h e
 rw [e, wraps63 _ (Int.natCast_nonneg _) (by omega)]
 omega
theorem l1Byte_ok {s : List Int} {i : Int} (h : Int) (hd : Drawer s i) : ∃ b i' h', spec_l1Byte.f s i h = some (b, i', h') ∧ 0 ≤ b ∧ b ≤ 255 ∧ Drawer s i' := by
 obtain ⟨h0, h1, h2⟩ := hd
 unfold spec_l1Byte.f
 by_cases hc : i < (s.length : Int)
 ·rw [if_pos hc, if_pos h0]
  exact ⟨_, _, _, rfl, (mask255 _).1, (mask255 _).2, by rw [w64 (by omega) (by omega)]; omega, by rw [w64 (by omega) (by omega)]; omega, h2⟩
 ·rw [if_neg hc]
  exact ⟨_, _, _, rfl, (mask255 _).1, (mask255 _).2, h0, h1, h2⟩
theorem l1Below_ok {s : List Int} {i : Int} (h n : Int) (hd : Drawer s i) (hn : 1 ≤ n) (hn2 : n ≤ 4294967296) : ∃ b i' h', spec_l1Below.f s i h n = some (b, i', h') ∧ 0 ≤ b ∧ b < n ∧ Drawer s i' := by
 unfold spec_l1Below.f
 rw [if_neg (by omega)]
 obtain ⟨b, i1, h1, e1, b0, b1, d1⟩ := l1Byte_ok h hd
 by_cases hc : n ≤ 256
 ·rw [if_pos hc, e1]
  simp only [Option.bind_some]
  rw [if_neg (by omega)]
  refine ⟨_, _, _, rfl, ?_, ?_, d1⟩
  ·rw [Int.tmod_eq_emod_of_nonneg b0]
   exact Int.emod_nonneg _ (by omega)
  ·rw [Int.tmod_eq_emod_of_nonneg b0]
   exact Int.emod_lt_of_pos _ (by omega)
 ·obtain ⟨b', i2, h2, e2, b0', b1', d2⟩ := l1Byte_ok h1 d1
  obtain ⟨b'', i3, h3, e3, b0'', b1'', d3⟩ := l1Byte_ok h2 d2
  rw [if_neg hc, e1]
  simp only [Option.bind_some]
  rw [e2]
  simp only [Option.bind_some]
  rw [e3]
  simp only [Option.bind_some]
  rw [if_neg (by omega)]
  have e : wrap64 ((wrap64 ((wrap64 (b * 65536)) + (wrap64 (b' * 256)))) + b'') = b * 65536 + b' * 256 + b'' := by
   rw [w64 (x := b * 65536) (by omega) (by omega), w64 (x := b' * 256) (by omega) (by omega), w64 (x := b * 65536 + b' * 256) (by omega) (by omega), w64 (by omega) (by omega)]
  rw [e]
  refine ⟨_, _, _, rfl, ?_, ?_, d3⟩
  ·rw [Int.tmod_eq_emod_of_nonneg (by omega)]
   exact Int.emod_nonneg _ (by omega)
  ·rw [Int.tmod_eq_emod_of_nonneg (by omega)]
   exact Int.emod_lt_of_pos _ (by omega)
theorem l1Int_ok {s : List Int} {i : Int} (h : Int) (l : List Int) (hd : Drawer s i) (hn : 1 ≤ l.length) (hn2 : l.length ≤ 4294967296) : ∃ x i' h', spec_l1Int.f s i h l = some (x, i', h') ∧ x ∈ l ∧ Drawer s i' := by
 obtain ⟨b, i1, h1, e1, b0, b1, d1⟩ := l1Below_ok h (l.length : Int) hd (by omega) (by omega)
 unfold spec_l1Int.f
 rw [e1]
 simp only [Option.bind_some]
 rw [if_pos b0, if_pos b1]
 obtain ⟨x, hx⟩ := get_some (l := l) (i := b.toNat) (by omega)
 refine ⟨_, _, _, rfl, ?_, d1⟩
 have : rd l b = x := by
  unfold rd
  simp [List.getD_eq_getElem?_getD, hx]
 rw [this]
 exact List.mem_of_getElem? hx
theorem l1Str_ok {s : List Int} {i : Int} (h : Int) (l : List ByteArray) (hd : Drawer s i) (hn : 1 ≤ l.length) (hn2 : l.length ≤ 4294967296) : ∃ x i' h', spec_l1Str.f s i h l = some (x, i', h') ∧ x ∈ l ∧ Drawer s i' := by
 obtain ⟨b, i1, h1, e1, b0, b1, d1⟩ := l1Below_ok h (l.length : Int) hd (by omega) (by omega)
 unfold spec_l1Str.f
 rw [e1]
 simp only [Option.bind_some]
 rw [if_pos b0, if_pos b1]
 obtain ⟨x, hx⟩ := get_some (l := l) (i := b.toNat) (by omega)
 refine ⟨_, _, _, rfl, ?_, d1⟩
 have : rdOf ByteArray.empty l b = x := by
  unfold rdOf
  simp [List.getD_eq_getElem?_getD, hx]
 rw [this]
 exact List.mem_of_getElem? hx
theorem l1New_ev (l : List Int) (hl : l.length ≤ 1048576) : ∃ h, Ev (fun k => spec_l1New.f k l) (l, 0, h) := by
 have main : ∀ (d : Nat) (i : Nat) (x : Int), i + d = l.length → ∃ h, Ev (fun k => spec_l1New.l0 k l x (i : Int)) (l, 0, h) := by
  intro d
  induction d with
  | zero =>
   intro i x hi
   refine ⟨x, Ev.step (f := fun _ => some (l, 0, x)) (fun k => ?_) (Ev.now _)⟩
   simp only [spec_l1New.l0]
   rw [if_neg (by omega)]
  | succ d ih =>
   intro i x hi
   by_cases hc : (i : Int) < 4000
   ·obtain ⟨h, e⟩ := ih (i + 1) (Go.bits .and .i64 (wrap64 ((wrap64 ((wrap64 (x * 137)) + (wrap64 (rd l i)))) + 11)) 1073741823) (by omega)
    refine ⟨h, Ev.step (fun k => ?_) e⟩
    simp only [spec_l1New.l0]
    rw [if_pos (by omega), if_pos hc, if_pos (by omega), w64 (x := (i : Int) + 1) (by omega) (by omega)]
    rfl
   ·refine ⟨x, Ev.step (f := fun _ => some (l, 0, x)) (fun k => ?_) (Ev.now _)⟩
    simp only [spec_l1New.l0]
    rw [if_pos (by omega), if_neg hc]
 exact main l.length 0 (wrap64 (372372 + (l.length : Int))) (by omega)
theorem Drawer.new {l : List Int} (hl : l.length ≤ 1048576) : Drawer l 0 := ⟨by omega, by omega, hl⟩
end Go.Proofs.Ytjnnglphdaemaaa.Q
end

section
-- Written by a program of this session (wip/tools/pp.sh) over the print of the kit.
namespace Go.Proofs.Ytjnnglphdaemaaa.Q
open Go.RowKit Go.Proofs.YtjnnglphdaemaaaW.PrintWords Go.Proofs.YtjnnglphdaemaaaW.PrintLast Go.Proofs.YtjnnglphdaemaaaW.PrintMore
attribute [local go_sem] max2_int min2_int max_two min_two max_three min_three max_four min_four   -- for this text's walks alone
set_option linter.unusedVariables false
set_option linter.unusedSimpArgs false
def spec_l6List.l0 : Nat → List ByteArray → Int → List Int → Int → Int → Option (List ByteArray × Int × Int)
 | 0, _, _, _, _, _ => none
 | k + 1, x3, x4, x1000, x1001, x1002 => if x4 > 0 then ((spec_l1Str.f x1000 x1001 x1002 (([(⟨#[]⟩ : ByteArray), (⟨#[97]⟩ : ByteArray), (⟨#[98]⟩ : ByteArray), (⟨#[120, 121, 122]⟩ : ByteArray)] : List ByteArray))).bind fun bt613 => (if x3.length < 8796093022208 then (spec_l6List.l0 k (x3 ++ [bt613.1]) (wrap64 (x4 - 1)) x1000 bt613.2.1 bt613.2.2) else (none))) else (some (x3, x1001, x1002))
def spec_l6List.f (k : Nat) (s0_0 : List Int) (s0_1 : Int) (s0_2 : Int) : Option (List ByteArray × Int × Int) := (spec_l1Int.f s0_0 s0_1 s0_2 (([0, 1, 2, 3, 4, 5, 7, 8, 6] : List Int))).bind fun bt607 => (spec_l6List.l0 k (([] : List ByteArray)) bt607.1 s0_0 bt607.2.1 bt607.2.2)
set_option maxHeartbeats 8000000 in
set_option maxRecDepth 100000 in
theorem spec_l6List.calls (k : Nat) (g : Nat) (s0_0 : List Int) (s0_1 : Int) (s0_2 : Int) (r1 : List ByteArray) (r2 : Int) (r3 : Int) (w0 w : World) (hI : IsS111 w0 w g s0_0 s0_1 s0_2) (hB : Below w0.heap.size w0 w) (h : spec_l6List.f k s0_0 s0_1 s0_2 = some (r1, r2, r3)) :
  Calls Try.prog 60 #[.pointer (some ⟨g, 0, none⟩)] w fun e w' => ∃ v0_ : Value, e = .returned (v0_) ∧ Kd.R Kd.string 9 w' w.heap.size (fun _ => True) v0_ r1 ∧ IsS111 w0 w' g s0_0 r2 r3 ∧ Below w0.heap.size w0 w' ∧ KeepBut w w' g none := by
 have HI0 := Aside0.mk hI
 have HK := Aside0.mk (KeepBut.refl w g none)
 have HL := Aside0.mk hB.size
 clear hI
 have HW0 := Aside0.mk hB.size
 have HB := Aside0.mk hB
 clear hB
 have H : ((spec_l1Int.f s0_0 s0_1 s0_2 (([0, 1, 2, 3, 4, 5, 7, 8, 6] : List Int))).bind fun bt607 => (spec_l6List.l0 k (([] : List ByteArray)) bt607.1 s0_0 bt607.2.1 bt607.2.2)) = some (r1, r2, r3) := h
 clear h
 obtain ⟨y601, hy601⟩ : ∃ y_ : List ByteArray, y_ = (([] : List ByteArray)) := ⟨_, rfl⟩
 replace H : ((spec_l1Int.f s0_0 s0_1 s0_2 (([0, 1, 2, 3, 4, 5, 7, 8, 6] : List Int))).bind fun bt607 => (spec_l6List.l0 k y601 bt607.1 s0_0 bt607.2.1 bt607.2.2)) = some (r1, r2, r3) := yh_ hy601 H
 have Ny601 := Aside0.mk hy601
 clear hy601
 obtain ⟨y604, hy604⟩ : ∃ y_ : List Int, y_ = (([0, 1, 2, 3, 4, 5, 7, 8, 6] : List Int)) := ⟨_, rfl⟩
 replace H : ((spec_l1Int.f s0_0 s0_1 s0_2 y604).bind fun bt607 => (spec_l6List.l0 k y601 bt607.1 s0_0 bt607.2.1 bt607.2.2)) = some (r1, r2, r3) := yh_ hy604 H
 have Ny604 := Aside0.mk hy604
 clear hy604
 replace H := bi_ H; obtain ⟨⟨t607, t608, t609⟩, A2, H⟩ := H
 dsimp only at H
 have H' := Aside0.mk H
 clear H
 go_enter Try.func60, Try.ntmps60
 go_wp2_with (first | ((with_reducible refine gd_ 5 ?_); refine rl_ Kd.string 9 5 ([] : List ByteArray) [] ?_; intro v602 w3 ho4 hb hg_ hnew_; clear hg_ hnew_; (first | rw [← Ny601.out] at ho4 | (simp only [Int.reduceToNat] at ho4; rw [← Ny601.out] at ho4)); have HO603 := Aside0.mk (Kd.R_lower ho4 (keep_size (w := w) (g := g) (row := none) (by repeat (first | (with_reducible first | exact HK.out | apply KeepBut.set_ | apply keep_drewN | apply keep_drew | apply keep_alloc) | exact HK.out)))); replace HK := Aside0.mk (KeepBut.trans (by repeat (first | (with_reducible first | exact HK.out | apply KeepBut.set_ | apply keep_drewN | apply keep_drew | apply keep_alloc) | exact HK.out)) (KeepBut.of_below hb g none) (.inl rfl)); replace HB := Aside0.mk (below_step (bs1_ HB (IsS111.ge HI0.out)) hb); replace HI0 := Aside0.mk (IsS111.below (by repeat (first | (with_reducible first | exact HI0.out | apply IsS111.alloc | apply IsS111.drewN | apply IsS111.drew | apply IsS111.set_1 | apply IsS111.set_2) | exact HI0.out)) hb); clear hb ho4) | ((with_reducible refine gd_ 7 ?_); refine rl_ (Kd.int .i64) 3 7 ([0, 1, 2, 3, 4, 5, 7, 8, 6] : List Int) [.int .i64 0, .int .i64 1, .int .i64 2, .int .i64 3, .int .i64 4, .int .i64 5, .int .i64 7, .int .i64 8, .int .i64 6] ?_; intro v605 w5 ho6 hb hg_ hnew_; clear hg_ hnew_; (first | rw [← Ny604.out] at ho6 | (simp only [Int.reduceToNat] at ho6; rw [← Ny604.out] at ho6)); replace HO603 := rb_ HO603 hb; have HO606 := Aside0.mk (Kd.R_lower ho6 (keep_size (w := w) (g := g) (row := none) (by repeat (first | (with_reducible first | exact HK.out | apply KeepBut.set_ | apply keep_drewN | apply keep_drew | apply keep_alloc) | exact HK.out)))); replace HK := Aside0.mk (KeepBut.trans (by repeat (first | (with_reducible first | exact HK.out | apply KeepBut.set_ | apply keep_drewN | apply keep_drew | apply keep_alloc) | exact HK.out)) (KeepBut.of_below hb g none) (.inl rfl)); replace HB := Aside0.mk (below_step (bs1_ HB (IsS111.ge HI0.out)) hb); replace HI0 := Aside0.mk (IsS111.below (by repeat (first | (with_reducible first | exact HI0.out | apply IsS111.alloc | apply IsS111.drewN | apply IsS111.drew | apply IsS111.set_1 | apply IsS111.set_2) | exact HI0.out)) hb); clear hb ho6; obtain ⟨Ao7, co7, eo7⟩ := Kd.R_slice HO606.out; subst eo7) | ((with_reducible refine gk_ 98 ?_); refine gl_ 8 Try.func98 #[.pointer (some ⟨g, 0, none⟩), .slice Ao7 y604.length co7] ?_; (with_reducible refine (spec_l1Int.calls g s0_0 s0_1 s0_2 _ _ y604 t607 t608 t609 w0 _ ?side1 ?side2 ?side3 ?side4 ?side5 A2.out).mono ?_); (case side1 => repeat (first | (with_reducible first | exact HI0.out | apply IsS111.alloc | apply IsS111.drewN | apply IsS111.drew | apply IsS111.set_1 | apply IsS111.set_2) | exact HI0.out)); (case side2 => repeat (first | (with_reducible first | exact HB.out | apply below_alloc | apply pw_below_drewN | apply below_drew1 | refine below_set ?_ (IsS111.ge HI0.out)) | exact HB.out)); (case side3 => exact ch_ HO606); (case side4 => exact (cl_ HO606)); (case side5 => exact far_slice (IsS111.own_ne HI0.out HO606.out (by decide))); rintro e w8 ⟨rfl, hi, hb, hk⟩; refine ⟨_, rfl, ?_⟩; replace HO603 := Aside0.mk (Kd.R_mono (Kd.R_keep (IsS111.apart (show IsS111 w0 _ g s0_0 s0_1 s0_2 from by repeat (first | (with_reducible first | exact HI0.out | apply IsS111.alloc | apply IsS111.drewN | apply IsS111.drew | apply IsS111.set_1 | apply IsS111.set_2) | exact HI0.out)) (kr_ HO603.out) (by decide)) hk (fun _ h => h.2)) (fun _ h => h.1)); replace HO606 := Aside0.mk (Kd.R_mono (Kd.R_keep (IsS111.apart (show IsS111 w0 _ g s0_0 s0_1 s0_2 from by repeat (first | (with_reducible first | exact HI0.out | apply IsS111.alloc | apply IsS111.drewN | apply IsS111.drew | apply IsS111.set_1 | apply IsS111.set_2) | exact HI0.out)) (kr_ HO606.out) (by decide)) hk (fun _ h => h.2)) (fun _ h => h.1)); replace HK := Aside0.mk (KeepBut.trans (by repeat (first | (with_reducible first | exact HK.out | apply KeepBut.set_ | apply keep_drewN | apply keep_drew | apply keep_alloc) | exact HK.out)) hk (.inl rfl)); replace HB := Aside0.mk hb; replace HI0 := Aside0.mk hi; clear hb hk hi))
 go_loopg [3, 4] k (fun kq v3 v4 w' => ∃ (x3_1 : List ByteArray) (x4_1 : Int) (x1001_1 : Int) (x1002_1 : Int), v4 = .int .i64 x4_1 ∧ Aside0 (spec_l6List.l0 kq x3_1 x4_1 s0_0 x1001_1 x1002_1 = some (r1, r2, r3)) ∧ Aside0 (kq ≤ k) ∧ Aside0 (Kd.R Kd.string 9 w' w.heap.size (fun _ => True) v3 x3_1) ∧ Aside0 (IsS111 w0 w' g s0_0 x1001_1 x1002_1) ∧ Aside0 (KeepBut w w' g none) ∧ Aside0 (Below w0.heap.size w0 w'))
 case atStart => exact ⟨(y601), (t607), (t608), (t609), e1_, H', ⟨Nat.le_refl _⟩, ⟨kr_ HO603.out⟩, ⟨by repeat (first | (with_reducible first | exact HI0.out | apply IsS111.alloc | apply IsS111.drewN | apply IsS111.drew | apply IsS111.set_1 | apply IsS111.set_2) | exact HI0.out)⟩, ⟨by repeat (first | (with_reducible first | exact HK.out | apply KeepBut.set_ | apply keep_drewN | apply keep_drew | apply keep_alloc) | exact HK.out)⟩, ⟨by repeat (first | (with_reducible first | exact HB.out | apply below_alloc | apply pw_below_drewN | apply below_drew1 | refine below_set ?_ (IsS111.ge HI0.out)) | exact HB.out)⟩⟩
 case round =>
  clear H'
  obtain ⟨x3_1, x4_1, x1001_1, x1002_1, rfl, HA, HK1, HO_3, HI0, HK, HB⟩ := hrel
  cases gk with
  | zero => exact absurd HA.out (by simp [spec_l6List.l0])
  | succ k1 =>
   have H := HA.out
   clear HA
   simp only [spec_l6List.l0] at H
   replace H := it_ H; obtain ⟨c9, H⟩ | ⟨c9, H⟩ := H
   ·have c9b0 : decide (0 < x4_1) = true := decide_eq_true c9
    clear c9
    obtain ⟨y610, hy610⟩ : ∃ y_ : List ByteArray, y_ = (([(⟨#[]⟩ : ByteArray), (⟨#[97]⟩ : ByteArray), (⟨#[98]⟩ : ByteArray), (⟨#[120, 121, 122]⟩ : ByteArray)] : List ByteArray)) := ⟨_, rfl⟩
    replace H : ((spec_l1Str.f s0_0 x1001_1 x1002_1 y610).bind fun bt613 => (if x3_1.length < 8796093022208 then (spec_l6List.l0 k1 (x3_1 ++ [bt613.1]) (wrap64 (x4_1 - 1)) s0_0 bt613.2.1 bt613.2.2) else (none))) = some (r1, r2, r3) := yh_ hy610 H
    have Ny610 := Aside0.mk hy610
    clear hy610
    replace H := bi_ H; obtain ⟨⟨t613, t614, t615⟩, A10, H⟩ := H
    dsimp only at H
    replace H := ip_ H; obtain ⟨c11, H⟩ := H
    have LMc11 := Aside0.mk c11
    clear c11
    obtain ⟨y616, hy616⟩ : ∃ y_ : List ByteArray, y_ = (x3_1 ++ [t613]) := ⟨_, rfl⟩
    replace H : (spec_l6List.l0 k1 y616 (wrap64 (x4_1 - 1)) s0_0 t614 t615) = some (r1, r2, r3) := yh_ hy616 H
    have Ny616 := Aside0.mk hy616
    clear hy616
    have H' := Aside0.mk H
    clear H
    go_wp2_with (first | ((with_reducible refine gd_ 15 ?_); refine rl_ Kd.string 9 15 ([(⟨#[]⟩ : ByteArray), (⟨#[97]⟩ : ByteArray), (⟨#[98]⟩ : ByteArray), (⟨#[120, 121, 122]⟩ : ByteArray)] : List ByteArray) [.string (⟨#[]⟩ : ByteArray), .string (⟨#[97]⟩ : ByteArray), .string (⟨#[98]⟩ : ByteArray), .string (⟨#[120, 121, 122]⟩ : ByteArray)] ?_; intro v611 w12 ho13 hb hg_ hnew_; clear hg_ hnew_; (first | rw [← Ny610.out] at ho13 | (simp only [Int.reduceToNat] at ho13; rw [← Ny610.out] at ho13)); have HO612 := Aside0.mk (Kd.R_lower (Kd.R_new' ho13 (lt_ HO_3)) (keep_size (w := w) (g := g) (row := none) (by repeat (first | (with_reducible first | exact HK.out | apply KeepBut.set_ | apply keep_drewN | apply keep_drew | apply keep_alloc) | exact HK.out)))); replace HO_3 := re_ HO_3 ho13 hb; replace HK := Aside0.mk (KeepBut.trans (by repeat (first | (with_reducible first | exact HK.out | apply KeepBut.set_ | apply keep_drewN | apply keep_drew | apply keep_alloc) | exact HK.out)) (KeepBut.of_below hb g none) (.inl rfl)); replace HB := Aside0.mk (below_step (bs1_ HB (IsS111.ge HI0.out)) hb); replace HI0 := Aside0.mk (IsS111.below (by repeat (first | (with_reducible first | exact HI0.out | apply IsS111.alloc | apply IsS111.drewN | apply IsS111.drew | apply IsS111.set_1 | apply IsS111.set_2) | exact HI0.out)) hb); clear hb ho13; obtain ⟨Ao14, co14, eo14⟩ := Kd.R_slice HO612.out; subst eo14) | ((with_reducible refine gk_ 99 ?_); refine gl_ 16 Try.func99 #[.pointer (some ⟨g, 0, none⟩), .slice Ao14 y610.length co14] ?_; (with_reducible refine (spec_l1Str.calls g s0_0 x1001_1 x1002_1 _ _ y610 t613 t614 t615 w0 _ ?side1 ?side2 ?side3 ?side4 ?side5 A10.out).mono ?_); (case side1 => repeat (first | (with_reducible first | exact HI0.out | apply IsS111.alloc | apply IsS111.drewN | apply IsS111.drew | apply IsS111.set_1 | apply IsS111.set_2) | exact HI0.out)); (case side2 => repeat (first | (with_reducible first | exact HB.out | apply below_alloc | apply pw_below_drewN | apply below_drew1 | refine below_set ?_ (IsS111.ge HI0.out)) | exact HB.out)); (case side3 => exact ch_ HO612); (case side4 => exact (cl_ HO612)); (case side5 => exact far_slice (IsS111.own_ne HI0.out HO612.out (by decide))); rintro e w15 ⟨rfl, hi, hb, hk⟩; refine ⟨_, rfl, ?_⟩; replace HO_3 := Aside0.mk (Kd.R_mono (Kd.R_keep (IsS111.apart (show IsS111 w0 _ g s0_0 x1001_1 x1002_1 from by repeat (first | (with_reducible first | exact HI0.out | apply IsS111.alloc | apply IsS111.drewN | apply IsS111.drew | apply IsS111.set_1 | apply IsS111.set_2) | exact HI0.out)) (kr_ HO_3.out) (by decide)) hk (fun _ h => h.2)) (fun _ h => h.1)); replace HO612 := Aside0.mk (Kd.R_mono (Kd.R_keep (IsS111.apart (show IsS111 w0 _ g s0_0 x1001_1 x1002_1 from by repeat (first | (with_reducible first | exact HI0.out | apply IsS111.alloc | apply IsS111.drewN | apply IsS111.drew | apply IsS111.set_1 | apply IsS111.set_2) | exact HI0.out)) (kr_ HO612.out) (by decide)) hk (fun _ h => h.2)) (fun _ h => h.1)); replace HK := Aside0.mk (KeepBut.trans (by repeat (first | (with_reducible first | exact HK.out | apply KeepBut.set_ | apply keep_drewN | apply keep_drew | apply keep_alloc) | exact HK.out)) hk (.inl rfl)); replace HB := Aside0.mk hb; replace HI0 := Aside0.mk hi; clear hb hk hi) | ((with_reducible refine gate_builtin (b := .append) (xs := #[.tmp 13, .tmp 17]) rfl ?_); at_builtin; refine Kd.R_append Kd.string w.heap.size rfl (.tmp 13) (.tmp 17) 24 9 (.string ⟨#[]⟩) 16 rfl Try.underlying24 info9 rfl (by decide) (by omega) u3 x3_1 t613 [.string t613] (fun k_ => some k_ ≠ (.slice Ao14 y610.length co14 : Value).ownBlock) (fun _ => False) rfl rfl ?aP (fun _ hk => hk.elim) ?aF ?aO (Below.refl _ _) ?aS ?aL ?_; (case aP => exact rfl); (case aF => exact (fun k_ hk => Kd.fresh' (lt_ HO612) k_ hk)); (case aO => exact (kr_ (Kd.R_mono HO_3.out (fun _ hk => hk.2)))); (case aS => exact (keep_size (w := w) (g := g) (row := none) (by repeat (first | (with_reducible first | exact HK.out | apply KeepBut.set_ | apply keep_drewN | apply keep_drew | apply keep_alloc) | exact HK.out)))); (case aL => have := LMc11.out; omega); intro v617 w16 ho hb hg hat; rw [← Ny616.out] at ho; replace HO612 := Aside0.mk (Kd.R_after (ok := (fun _ => True)) (kr_ HO612.out) hg hat); replace HB := Aside0.mk (below_weaken (bs1_ HB (IsS111.ge HI0.out)) HL.out hb); replace HI0 := Aside0.mk (IsS111.grown (by repeat (first | (with_reducible first | exact HI0.out | apply IsS111.alloc | apply IsS111.drewN | apply IsS111.drew | apply IsS111.set_1 | apply IsS111.set_2) | exact HI0.out)) hg (IsS111.own_ne HI0.out HO_3.out (by decide))); replace HK := Aside0.mk (KeepBut.trans (by repeat (first | (with_reducible first | exact HK.out | apply KeepBut.set_ | apply keep_drewN | apply keep_drew | apply keep_alloc) | exact HK.out)) (KeepBut.of_grown hg g) (Kd.R_base2 HO_3.out)); have HO618 := Aside0.mk ho; clear HO_3; clear ho hb hg hat))
    go_roundg k1
    case measure => have := HK1.out; omega
    case rel => exact ⟨(y616), (wrap64 (x4_1 - 1)), (t614), (t615), e1_, H', ⟨by have := HK1.out; omega⟩, ⟨by (with_reducible repeat (first | apply Kd.R_alloc | apply Kd.R_drewN | apply Kd.R_drew)); exact Kd.R_mono HO618.out (fun _ hk => trivial)⟩, ⟨by repeat (first | (with_reducible first | exact HI0.out | apply IsS111.alloc | apply IsS111.drewN | apply IsS111.drew | apply IsS111.set_1 | apply IsS111.set_2) | exact HI0.out)⟩, ⟨by repeat (first | (with_reducible first | exact HK.out | apply KeepBut.set_ | apply keep_drewN | apply keep_drew | apply keep_alloc) | exact HK.out)⟩, ⟨by repeat (first | (with_reducible first | exact HB.out | apply below_alloc | apply pw_below_drewN | apply below_drew1 | refine below_set ?_ (IsS111.ge HI0.out)) | exact HB.out)⟩⟩
   ·have c9b0 : decide (0 < x4_1) = false := decide_eq_false c9
    clear c9
    replace H := so3_ H; obtain ⟨rfl, rfl, rfl⟩ := H
    go_wp2
    go_ret
    exact ⟨_, e2_, kr_ HO_3.out, by repeat (first | (with_reducible first | exact HI0.out | apply IsS111.alloc | apply IsS111.drewN | apply IsS111.drew | apply IsS111.set_1 | apply IsS111.set_2) | exact HI0.out), by repeat (first | (with_reducible first | exact HB.out | apply below_alloc | apply pw_below_drewN | apply below_drew1 | refine below_set ?_ (IsS111.ge HI0.out)) | exact HB.out), by repeat (first | (with_reducible first | exact HK.out | apply KeepBut.set_ | apply keep_drewN | apply keep_drew | apply keep_alloc) | exact HK.out)⟩
end Go.Proofs.Ytjnnglphdaemaaa.Q
end

section
/- Drawn lists of texts. Plain. -/
namespace Go.Proofs.Ytjnnglphdaemaaa.Q
open Go.RowKit Go.Proofs.Ytjnnglphdaemaaa.B Go.Proofs.YtjnnglphdaemaaaW.PrintWords Go.Proofs.YtjnnglphdaemaaaW.PrintMore
set_option linter.unusedVariables false
set_option linter.unusedSimpArgs false
theorem l6List_ev {s : List Int} {i : Int} (h : Int) (hd : Drawer s i) : ∃ l i' h', Ev (fun k => spec_l6List.f k s i h) (l, i', h') ∧ Drawer s i' ∧ l.length ≤ 8 ∧ ∀ x ∈ l, x.size ≤ 3 := by
 obtain ⟨n, i1, h1, e1, hn, d1⟩ := l1Int_ok h ([0, 1, 2, 3, 4, 5, 7, 8, 6] : List Int) hd (by decide) (by decide)
 have main : ∀ (n : Nat) (acc : List ByteArray) (i h : Int), Drawer s i → acc.length + n ≤ 8 → (∀ x ∈ acc, x.size ≤ 3) → ∃ l i' h', Ev (fun k => spec_l6List.l0 k acc (n : Int) s i h) (l, i', h') ∧ Drawer s i' ∧ l.length ≤ 8 ∧ ∀ x ∈ l, x.size ≤ 3 := by
  intro n
  induction n with
  | zero =>
   intro acc i h hd ha hx
   refine ⟨acc, i, h, Ev.step (f := fun _ => some (acc, i, h)) (fun k => ?_) (Ev.now _), hd, by omega, hx⟩
   simp only [spec_l6List.l0]
   rw [if_neg (by omega)]
  | succ n ih =>
   intro acc i h hd ha hx
   obtain ⟨t, i2, h2, e2, hs, d2⟩ := l1Str_ok h ([(⟨#[]⟩ : ByteArray), (⟨#[97]⟩ : ByteArray), (⟨#[98]⟩ : ByteArray), (⟨#[120, 121, 122]⟩ : ByteArray)] : List ByteArray) hd (by simp) (by simp)
   have hss : t.size ≤ 3 := by
    simp only [List.mem_cons, List.not_mem_nil, or_false] at hs
    rcases hs with rfl | rfl | rfl | rfl <;> decide
   obtain ⟨l, i3, h3, e3, d3, hl3, hx3⟩ := ih (acc ++ [t]) i2 h2 d2 (by simp; omega) (fun x hm => by
    rcases List.mem_append.1 hm with hm | hm
    ·exact hx x hm
    ·rw [List.mem_singleton.1 hm]
     exact hss)
   refine ⟨l, i3, h3, Ev.step (fun k => ?_) e3, d3, hl3, hx3⟩
   simp only [spec_l6List.l0]
   rw [if_pos (by omega), e2]
   simp only [Option.bind_some]
   rw [if_pos (by omega), w64 (x := ((n + 1 : Nat) : Int) - 1) (by omega) (by omega)]
   congr 1
   omega
 have hn2 : 0 ≤ n ∧ n ≤ 8 := by
  simp only [List.mem_cons, List.not_mem_nil, or_false] at hn
  omega
 obtain ⟨l, i2, h2, e2, d2, hl2, hx2⟩ := main n.toNat [] i1 h1 d1 (by simp; omega) (by simp)
 rw [show ((n.toNat : Nat) : Int) = n from by omega] at e2
 refine ⟨l, i2, h2, ?_, d2, hl2, hx2⟩
 unfold spec_l6List.f
 rw [e1]
 exact e2
end Go.Proofs.Ytjnnglphdaemaaa.Q
end

section
-- Written by a program of this session (wip/tools/pp.sh) over the print of the kit.
namespace Go.Proofs.Ytjnnglphdaemaaa.Q
open Go.RowKit Go.Proofs.YtjnnglphdaemaaaW.PrintWords Go.Proofs.YtjnnglphdaemaaaW.PrintLast Go.Proofs.YtjnnglphdaemaaaW.PrintMore
attribute [local go_sem] max2_int min2_int max_two min_two max_three min_three max_four min_four   -- for this text's walks alone
set_option linter.unusedVariables false
set_option linter.unusedSimpArgs false
def spec_l1Once.f (s0_0 : List Int) (s0_1 : Int) (s0_2 : Int) (a1 : Int) : Option (Bool × Int × Int) := (spec_l1Below.f s0_0 s0_1 s0_2 a1).bind fun bt601 => (some ((bt601.1 == 0), bt601.2.1, bt601.2.2))
set_option maxHeartbeats 8000000 in
set_option maxRecDepth 100000 in
theorem spec_l1Once.calls (g : Nat) (s0_0 : List Int) (s0_1 : Int) (s0_2 : Int) (a1 : Int) (r1 : Bool) (r2 : Int) (r3 : Int) (w0 w : World) (hI : IsS111 w0 w g s0_0 s0_1 s0_2) (hB : Below w0.heap.size w0 w) (h : spec_l1Once.f s0_0 s0_1 s0_2 a1 = some (r1, r2, r3)) :
  Calls Try.prog 75 #[.pointer (some ⟨g, 0, none⟩), .int .i64 a1] w fun e w' => e = .returned (.bool r1) ∧ IsS111 w0 w' g s0_0 r2 r3 ∧ Below w0.heap.size w0 w' ∧ KeepBut w w' g none := by
 have HI0 := Aside0.mk hI
 have HK := Aside0.mk (KeepBut.refl w g none)
 have HL := Aside0.mk hB.size
 clear hI
 have HW0 := Aside0.mk hB.size
 have HB := Aside0.mk hB
 clear hB
 have H : ((spec_l1Below.f s0_0 s0_1 s0_2 a1).bind fun bt601 => (some ((bt601.1 == 0), bt601.2.1, bt601.2.2))) = some (r1, r2, r3) := h
 clear h
 replace H := bi_ H; obtain ⟨⟨t601, t602, t603⟩, A3, H⟩ := H
 dsimp only at H
 replace H := so3_ H; obtain ⟨rfl, rfl, rfl⟩ := H
 go_enter Try.func75, Try.ntmps75
 go_wp2_with (first | ((with_reducible refine gk_ 61 ?_); refine gl_ 7 Try.func61 #[.pointer (some ⟨g, 0, none⟩), .int .i64 a1] ?_; (with_reducible refine (spec_l1Below.calls g s0_0 s0_1 s0_2 a1 t601 t602 t603 w0 _ ?side1 ?side2 A3.out).mono ?_); (case side1 => repeat (first | (with_reducible first | exact HI0.out | apply IsS111.alloc | apply IsS111.drewN | apply IsS111.drew | apply IsS111.set_1 | apply IsS111.set_2) | exact HI0.out)); (case side2 => repeat (first | (with_reducible first | exact HB.out | apply below_alloc | apply pw_below_drewN | apply below_drew1 | refine below_set ?_ (IsS111.ge HI0.out)) | exact HB.out)); rintro e w4 ⟨rfl, hi, hb, hk⟩; refine ⟨_, rfl, ?_⟩; replace HK := Aside0.mk (KeepBut.trans (by repeat (first | (with_reducible first | exact HK.out | apply KeepBut.set_ | apply keep_drewN | apply keep_drew | apply keep_alloc) | exact HK.out)) hk (.inl rfl)); replace HB := Aside0.mk hb; replace HI0 := Aside0.mk hi; clear hb hk hi))
 go_ret
 exact ⟨e2_, by repeat (first | (with_reducible first | exact HI0.out | apply IsS111.alloc | apply IsS111.drewN | apply IsS111.drew | apply IsS111.set_1 | apply IsS111.set_2) | exact HI0.out), by repeat (first | (with_reducible first | exact HB.out | apply below_alloc | apply pw_below_drewN | apply below_drew1 | refine below_set ?_ (IsS111.ge HI0.out)) | exact HB.out), by repeat (first | (with_reducible first | exact HK.out | apply KeepBut.set_ | apply keep_drewN | apply keep_drew | apply keep_alloc) | exact HK.out)⟩
end Go.Proofs.Ytjnnglphdaemaaa.Q
end

section
-- Written by a program of this session (wip/tools/pp.sh) over the print of the kit.
namespace Go.Proofs.Ytjnnglphdaemaaa.Q
open Go.RowKit Go.Proofs.YtjnnglphdaemaaaW.PrintWords Go.Proofs.YtjnnglphdaemaaaW.PrintLast Go.Proofs.YtjnnglphdaemaaaW.PrintMore
attribute [local go_sem] max2_int min2_int max_two min_two max_three min_three max_four min_four   -- for this text's walks alone
set_option linter.unusedVariables false
set_option linter.unusedSimpArgs false
def spec_l10Table.l0 : Nat → List ByteArray → List (S28) → Int → List Int → Int → Int → Option ((List (S28)) × Int × Int)
 | 0, _, _, _, _, _, _ => none
 | k + 1, x1, x5, x6, x1000, x1001, x1002 => if x6 ≤ (x1.length : Int) then ((spec_l1Once.f x1000 x1001 x1002 3).bind fun bt604 => (if bt604.1 = true then (if x6 = (x1.length : Int) then (if 0 ≤ x6 then ((spec_HeadOf.f k (x1.take (x6 : Int).toNat)).bind fun bt608 => (if x5.length < 5864062014805 then (spec_l10Table.l0 k x1 (x5 ++ [(⟨bt608.1, bt608.2⟩ : S28)]) (wrap64 (x6 + 1)) x1000 bt604.2.1 bt604.2.2) else (none))) else (none)) else (spec_l10Table.l0 k x1 x5 (wrap64 (x6 + 1)) x1000 bt604.2.1 bt604.2.2)) else (if 0 ≤ x6 then ((spec_HeadOf.f k (x1.take (x6 : Int).toNat)).bind fun bt614 => (if x5.length < 5864062014805 then (spec_l10Table.l0 k x1 (x5 ++ [(⟨bt614.1, bt614.2⟩ : S28)]) (wrap64 (x6 + 1)) x1000 bt604.2.1 bt604.2.2) else (none))) else (none)))) else (some (x5, x1001, x1002))
def spec_l10Table.f (k : Nat) (s0_0 : List Int) (s0_1 : Int) (s0_2 : Int) (l1 : List ByteArray) : Option ((List (S28)) × Int × Int) := spec_l10Table.l0 k l1 (([] : List (S28))) 0 s0_0 s0_1 s0_2
set_option maxHeartbeats 8000000 in
set_option maxRecDepth 100000 in
theorem spec_l10Table.calls (k : Nat) (g : Nat) (s0_0 : List Int) (s0_1 : Int) (s0_2 : Int) (A1 : Option Addr) (c1 : Nat) (l1 : List ByteArray) (r1 : List (S28)) (r2 : Int) (r3 : Int) (w0 w : World) (hI : IsS111 w0 w g s0_0 s0_1 s0_2) (hB : Below w0.heap.size w0 w) (hr1 : Kd.C Kd.string w A1 l1.length l1) (hc1 : l1.length ≤ c1) (hf1 : ∀ ad, A1 = some ad → 0 < l1.length → ad.block ≠ g) (h : spec_l10Table.f k s0_0 s0_1 s0_2 l1 = some (r1, r2, r3)) :
  Calls Try.prog 71 #[.pointer (some ⟨g, 0, none⟩), .slice A1 l1.length c1] w fun e w' => ∃ v0_ : Value, e = .returned (v0_) ∧ Kd.R k28 28 w' w.heap.size (fun _ => True) v0_ r1 ∧ IsS111 w0 w' g s0_0 r2 r3 ∧ Below w0.heap.size w0 w' ∧ KeepBut w w' g none := by
 have HR1 := Aside0.mk hr1
 have HC1 := Aside0.mk hc1
 clear hr1 hc1
 have HI0 := Aside0.mk hI
 have HK := Aside0.mk (KeepBut.refl w g none)
 have HL := Aside0.mk hB.size
 clear hI
 have HW0 := Aside0.mk hB.size
 have HB := Aside0.mk hB
 clear hB
 have H : (spec_l10Table.l0 k l1 (([] : List (S28))) 0 s0_0 s0_1 s0_2) = some (r1, r2, r3) := h
 clear h
 obtain ⟨y601, hy601⟩ : ∃ y_ : List (S28), y_ = (([] : List (S28))) := ⟨_, rfl⟩
 replace H : (spec_l10Table.l0 k l1 y601 0 s0_0 s0_1 s0_2) = some (r1, r2, r3) := yh_ hy601 H
 have Ny601 := Aside0.mk hy601
 clear hy601
 have H' := Aside0.mk H
 clear H
 go_enter Try.func71, Try.ntmps71
 go_wp2_with (first | ((with_reducible refine gd_ 7 ?_); (try (refine gate_guard (by rfl) ?_; dsimp only)); refine Kd.R_lit k28 _ 28 ?hg (N := 7) ?hd (xs := ([] : List (S28))) (inner := []) (ok := fun _ => True) (okp := fun _ => True) ?hr ?hp (fun _ hk => hk) trivial (Below.refl _ _) (Nat.le_refl _) (by simp) ?_; (case hd => rfl); (case hg => rfl); (case hr => first | (go_simp; done) | (go_simp; rfl)); (case hp => exact (Reps.none _ _)); intro v602 w3 ho4 hb hg_ hnew_; clear hg_ hnew_; (first | rw [← Ny601.out] at ho4 | (simp only [Int.reduceToNat] at ho4; rw [← Ny601.out] at ho4)); have HO603 := Aside0.mk (Kd.R_lower ho4 (keep_size (w := w) (g := g) (row := none) (by repeat (first | (with_reducible first | exact HK.out | apply KeepBut.set_ | apply keep_drewN | apply keep_drew | apply keep_alloc) | exact HK.out)))); replace HK := Aside0.mk (KeepBut.trans (by repeat (first | (with_reducible first | exact HK.out | apply KeepBut.set_ | apply keep_drewN | apply keep_drew | apply keep_alloc) | exact HK.out)) (KeepBut.of_below hb g none) (.inl rfl)); replace HB := Aside0.mk (below_step (bs1_ HB (IsS111.ge HI0.out)) hb); replace HI0 := Aside0.mk (IsS111.below (by repeat (first | (with_reducible first | exact HI0.out | apply IsS111.alloc | apply IsS111.drewN | apply IsS111.drew | apply IsS111.set_1 | apply IsS111.set_2) | exact HI0.out)) hb); clear hb ho4))
 go_loopg [5, 6] k (fun kq v5 v6 w' => ∃ (x5_1 : List (S28)) (x6_1 : Int) (x1001_1 : Int) (x1002_1 : Int), v6 = .int .i64 x6_1 ∧ Aside0 (spec_l10Table.l0 kq l1 x5_1 x6_1 s0_0 x1001_1 x1002_1 = some (r1, r2, r3)) ∧ Aside0 (kq ≤ k) ∧ Aside0 (Kd.R k28 28 w' w.heap.size (fun _ => True) v5 x5_1) ∧ Aside0 (IsS111 w0 w' g s0_0 x1001_1 x1002_1) ∧ Aside0 (KeepBut w w' g none) ∧ Aside0 (Below w0.heap.size w0 w'))
 case atStart => exact ⟨(y601), (0), (s0_1), (s0_2), e1_, H', ⟨Nat.le_refl _⟩, ⟨kr_ HO603.out⟩, ⟨by repeat (first | (with_reducible first | exact HI0.out | apply IsS111.alloc | apply IsS111.drewN | apply IsS111.drew | apply IsS111.set_1 | apply IsS111.set_2) | exact HI0.out)⟩, ⟨by repeat (first | (with_reducible first | exact HK.out | apply KeepBut.set_ | apply keep_drewN | apply keep_drew | apply keep_alloc) | exact HK.out)⟩, ⟨by repeat (first | (with_reducible first | exact HB.out | apply below_alloc | apply pw_below_drewN | apply below_drew1 | refine below_set ?_ (IsS111.ge HI0.out)) | exact HB.out)⟩⟩
 case round =>
  clear H'
  obtain ⟨x5_1, x6_1, x1001_1, x1002_1, rfl, HA, HK1, HO_5, HI0, HK, HB⟩ := hrel
  cases gk with
  | zero => exact absurd HA.out (by simp [spec_l10Table.l0])
  | succ k1 =>
   have H := HA.out
   clear HA
   simp only [spec_l10Table.l0] at H
   replace H := itd_ H; obtain ⟨c5b0, H⟩ | ⟨c5b0, H⟩ := H
   ·replace H := bi_ H; obtain ⟨⟨t604, t605, t606⟩, A6, H⟩ := H
    dsimp only at H
    replace H := itb_ H; obtain ⟨rfl, H⟩ | ⟨rfl, H⟩ := H
    ·replace H := it_ H; obtain ⟨c8, H⟩ | ⟨c8, H⟩ := H
     ·have c8b0 : (x6_1 == (l1.length : Int)) = true := beq_iff_eq.mpr c8
      have c8b1 : (x6_1 != (l1.length : Int)) = false := bne_eq_false_iff_eq.mpr c8
      clear c8
      replace H := ip_ H; obtain ⟨c9, H⟩ := H
      have c9b0 := eq_true c9
      have c9b1 := decide_eq_true c9
      clear c9
      have c10b0 := eq_true (of_decide_eq_true as_ : x6_1 ≤ (l1.length : Int))
      replace H := bi_ H; obtain ⟨⟨t608, t609⟩, A11, H⟩ := H
      dsimp only at H
      replace H := ip_ H; obtain ⟨c12, H⟩ := H
      have LMc12 := Aside0.mk c12
      clear c12
      obtain ⟨y610, hy610⟩ : ∃ y_ : List (S28), y_ = (x5_1 ++ [(⟨t608, t609⟩ : S28)]) := ⟨_, rfl⟩
      replace H : (spec_l10Table.l0 k1 l1 y610 (wrap64 (x6_1 + 1)) s0_0 t605 t606) = some (r1, r2, r3) := yh_ hy610 H
      have Ny610 := Aside0.mk hy610
      clear hy610
      have H' := Aside0.mk H
      clear H
      go_wp2_with (first | ((with_reducible refine gk_ 75 ?_); refine gl_ 15 Try.func75 #[.pointer (some ⟨g, 0, none⟩), .int .i64 3] ?_; (with_reducible refine (spec_l1Once.calls g s0_0 x1001_1 x1002_1 3 true t605 t606 w0 _ ?side1 ?side2 A6.out).mono ?_); (case side1 => repeat (first | (with_reducible first | exact HI0.out | apply IsS111.alloc | apply IsS111.drewN | apply IsS111.drew | apply IsS111.set_1 | apply IsS111.set_2) | exact HI0.out)); (case side2 => repeat (first | (with_reducible first | exact HB.out | apply below_alloc | apply pw_below_drewN | apply below_drew1 | refine below_set ?_ (IsS111.ge HI0.out)) | exact HB.out)); rintro e w13 ⟨rfl, hi, hb, hk⟩; refine ⟨_, rfl, ?_⟩; replace HO_5 := Aside0.mk (Kd.R_mono (Kd.R_keep (IsS111.apart (show IsS111 w0 _ g s0_0 x1001_1 x1002_1 from by repeat (first | (with_reducible first | exact HI0.out | apply IsS111.alloc | apply IsS111.drewN | apply IsS111.drew | apply IsS111.set_1 | apply IsS111.set_2) | exact HI0.out)) (kr_ HO_5.out) (by decide)) hk (fun _ h => h.2)) (fun _ h => h.1)); replace HK := Aside0.mk (KeepBut.trans (by repeat (first | (with_reducible first | exact HK.out | apply KeepBut.set_ | apply keep_drewN | apply keep_drew | apply keep_alloc) | exact HK.out)) hk (.inl rfl)); replace HB := Aside0.mk hb; replace HI0 := Aside0.mk hi; clear hb hk hi; obtain ⟨i014, hi014, _, hsz14, _⟩ := info_parts info9; obtain ⟨hcut14, hA14, hC14⟩ := print_take_of (P := Try.prog) Value.string (⟨#[]⟩ : ByteArray) 24 9 .i64 Try.underlying24 hi014 hsz14 A1 c1 l1 x6_1 (of_decide_eq_true as_) (of_decide_eq_true as_) HC1.out; have HR607 := Aside0.mk (Kd.C_of_reads (h1 := fun _ => rfl) (hA14 _ (Kd.reads_of_C HR1.out))); have HC607 := Aside0.mk hC14; have hf607 : ∀ ad : Addr, A1 = some ad → 0 < (l1.take (x6_1 : Int).toNat).length → ad.block ≠ g := fun ad he h_ => (by cases he; exact Kd.foot_ne (fun W_ hk_ => Kd.C_of_reads (h1 := fun _ => rfl) (hA14 _ (Kd.reads_of_C (Kd.C_foot_ne (fun h => h) HR1.out hf1 W_ hk_)))) h_ (by decide)); clear hA14 hC14 hi014 hsz14) | ((with_reducible refine gk_ 72 ?_); refine gl_ 27 Try.func72 #[.slice A1 (l1.take (x6_1 : Int).toNat).length c1] ?_ (hargs := (by (try simp only [List.map_toArray, List.map_cons, List.map_nil]); first | done | (rw [show (l1.take (x6_1 : Int).toNat).length = x6_1.toNat from (by rw [List.length_take]; have h_ : (x6_1 : Int) ≤ (l1.length : Int) := of_decide_eq_true as_; omega)] <;> rfl) | rfl | (simp only [List.length_drop, List.length_take]; rfl))); (with_reducible refine (spec_HeadOf.calls k1 _ _ (l1.take (x6_1 : Int).toNat) t608 t609 _ ?side1 ?side2 A11.out).mono ?_); (case side1 => exact Kd.C_keep (⟨#[]⟩ : ByteArray) HR607.out (by repeat (first | (with_reducible first | exact HK.out | apply KeepBut.set_ | apply keep_drewN | apply keep_drew | apply keep_alloc) | exact HK.out)) hf607); (case side2 => exact HC607.out); rintro e w15 ⟨rfl, hb⟩; refine ⟨_, rfl, ?_⟩; replace HO_5 := rb_ HO_5 hb; replace HK := Aside0.mk (KeepBut.trans (by repeat (first | (with_reducible first | exact HK.out | apply KeepBut.set_ | apply keep_drewN | apply keep_drew | apply keep_alloc) | exact HK.out)) (KeepBut.of_below hb g none) (.inl rfl)); replace HB := Aside0.mk (below_step (bs1_ HB (IsS111.ge HI0.out)) hb); replace HI0 := Aside0.mk (IsS111.below (by repeat (first | (with_reducible first | exact HI0.out | apply IsS111.alloc | apply IsS111.drewN | apply IsS111.drew | apply IsS111.set_1 | apply IsS111.set_2) | exact HI0.out)) hb); clear hb) | ((with_reducible refine gate_builtin (b := .append) (xs := #[.tmp 23, .tmp 28]) rfl ?_); (try (refine gate_guard (by rfl) ?_; dsimp only)); at_builtin; refine Kd.R_append k28 w.heap.size rfl (.tmp 23) (.tmp 28) 35 28 (.agg #[(.int .i64 0), (.string ⟨#[]⟩)]) 24 rfl Try.underlying35 info28 rfl (by decide) (by omega) u5 x5_1 (⟨t608, t609⟩ : S28) [.int .i64 t608, .string t609] (fun _ => True) (fun _ => False) rfl rfl ?aP (fun _ hk => hk.elim) ?aF ?aO (Below.refl _ _) ?aS ?aL ?_; (case aP => exact k28_mkM _ _ _ (⟨t608, t609⟩ : S28)); (case aF => exact (fun _ _ => trivial)); (case aO => exact (kr_ HO_5.out)); (case aS => exact (keep_size (w := w) (g := g) (row := none) (by repeat (first | (with_reducible first | exact HK.out | apply KeepBut.set_ | apply keep_drewN | apply keep_drew | apply keep_alloc) | exact HK.out)))); (case aL => have := LMc12.out; omega); intro v611 w16 ho hb hg hat; rw [← Ny610.out] at ho; replace HB := Aside0.mk (below_weaken (bs1_ HB (IsS111.ge HI0.out)) HL.out hb); replace HI0 := Aside0.mk (IsS111.grown (by repeat (first | (with_reducible first | exact HI0.out | apply IsS111.alloc | apply IsS111.drewN | apply IsS111.drew | apply IsS111.set_1 | apply IsS111.set_2) | exact HI0.out)) hg (IsS111.own_ne HI0.out HO_5.out (by decide))); replace HK := Aside0.mk (KeepBut.trans (by repeat (first | (with_reducible first | exact HK.out | apply KeepBut.set_ | apply keep_drewN | apply keep_drew | apply keep_alloc) | exact HK.out)) (KeepBut.of_grown hg g) (Kd.R_base2 HO_5.out)); have HO612 := Aside0.mk ho; clear HO_5; clear ho hb hg hat))
      go_roundg k1
      case measure => have := HK1.out; omega
      case rel => exact ⟨(y610), (wrap64 (x6_1 + 1)), (t605), (t606), e1_, H', ⟨by have := HK1.out; omega⟩, ⟨kr_ HO612.out⟩, ⟨by repeat (first | (with_reducible first | exact HI0.out | apply IsS111.alloc | apply IsS111.drewN | apply IsS111.drew | apply IsS111.set_1 | apply IsS111.set_2) | exact HI0.out)⟩, ⟨by repeat (first | (with_reducible first | exact HK.out | apply KeepBut.set_ | apply keep_drewN | apply keep_drew | apply keep_alloc) | exact HK.out)⟩, ⟨by repeat (first | (with_reducible first | exact HB.out | apply below_alloc | apply pw_below_drewN | apply below_drew1 | refine below_set ?_ (IsS111.ge HI0.out)) | exact HB.out)⟩⟩
     ·have c8b0 : (x6_1 == (l1.length : Int)) = false := beq_eq_false_iff_ne.mpr c8
      have c8b1 : (x6_1 != (l1.length : Int)) = true := bne_iff_ne.mpr c8
      have H' := Aside0.mk H
      clear H
      go_wp2_with (first | ((with_reducible refine gk_ 75 ?_); refine gl_ 15 Try.func75 #[.pointer (some ⟨g, 0, none⟩), .int .i64 3] ?_; (with_reducible refine (spec_l1Once.calls g s0_0 x1001_1 x1002_1 3 true t605 t606 w0 _ ?side1 ?side2 A6.out).mono ?_); (case side1 => repeat (first | (with_reducible first | exact HI0.out | apply IsS111.alloc | apply IsS111.drewN | apply IsS111.drew | apply IsS111.set_1 | apply IsS111.set_2) | exact HI0.out)); (case side2 => repeat (first | (with_reducible first | exact HB.out | apply below_alloc | apply pw_below_drewN | apply below_drew1 | refine below_set ?_ (IsS111.ge HI0.out)) | exact HB.out)); rintro e w17 ⟨rfl, hi, hb, hk⟩; refine ⟨_, rfl, ?_⟩; replace HO_5 := Aside0.mk (Kd.R_mono (Kd.R_keep (IsS111.apart (show IsS111 w0 _ g s0_0 x1001_1 x1002_1 from by repeat (first | (with_reducible first | exact HI0.out | apply IsS111.alloc | apply IsS111.drewN | apply IsS111.drew | apply IsS111.set_1 | apply IsS111.set_2) | exact HI0.out)) (kr_ HO_5.out) (by decide)) hk (fun _ h => h.2)) (fun _ h => h.1)); replace HK := Aside0.mk (KeepBut.trans (by repeat (first | (with_reducible first | exact HK.out | apply KeepBut.set_ | apply keep_drewN | apply keep_drew | apply keep_alloc) | exact HK.out)) hk (.inl rfl)); replace HB := Aside0.mk hb; replace HI0 := Aside0.mk hi; clear hb hk hi))
      go_roundg k1
      case measure => have := HK1.out; omega
      case rel => exact ⟨(x5_1), (wrap64 (x6_1 + 1)), (t605), (t606), e1_, H', ⟨by have := HK1.out; omega⟩, ⟨kr_ HO_5.out⟩, ⟨by repeat (first | (with_reducible first | exact HI0.out | apply IsS111.alloc | apply IsS111.drewN | apply IsS111.drew | apply IsS111.set_1 | apply IsS111.set_2) | exact HI0.out)⟩, ⟨by repeat (first | (with_reducible first | exact HK.out | apply KeepBut.set_ | apply keep_drewN | apply keep_drew | apply keep_alloc) | exact HK.out)⟩, ⟨by repeat (first | (with_reducible first | exact HB.out | apply below_alloc | apply pw_below_drewN | apply below_drew1 | refine below_set ?_ (IsS111.ge HI0.out)) | exact HB.out)⟩⟩
    ·replace H := ip_ H; obtain ⟨c18, H⟩ := H
     have c18b0 := eq_true c18
     have c18b1 := decide_eq_true c18
     clear c18
     have c19b0 := eq_true (of_decide_eq_true as_ : x6_1 ≤ (l1.length : Int))
     replace H := bi_ H; obtain ⟨⟨t614, t615⟩, A20, H⟩ := H
     dsimp only at H
     replace H := ip_ H; obtain ⟨c21, H⟩ := H
     have LMc21 := Aside0.mk c21
     clear c21
     obtain ⟨y616, hy616⟩ : ∃ y_ : List (S28), y_ = (x5_1 ++ [(⟨t614, t615⟩ : S28)]) := ⟨_, rfl⟩
     replace H : (spec_l10Table.l0 k1 l1 y616 (wrap64 (x6_1 + 1)) s0_0 t605 t606) = some (r1, r2, r3) := yh_ hy616 H
     have Ny616 := Aside0.mk hy616
     clear hy616
     have H' := Aside0.mk H
     clear H
     go_wp2_with (first | ((with_reducible refine gk_ 75 ?_); refine gl_ 15 Try.func75 #[.pointer (some ⟨g, 0, none⟩), .int .i64 3] ?_; (with_reducible refine (spec_l1Once.calls g s0_0 x1001_1 x1002_1 3 false t605 t606 w0 _ ?side1 ?side2 A6.out).mono ?_); (case side1 => repeat (first | (with_reducible first | exact HI0.out | apply IsS111.alloc | apply IsS111.drewN | apply IsS111.drew | apply IsS111.set_1 | apply IsS111.set_2) | exact HI0.out)); (case side2 => repeat (first | (with_reducible first | exact HB.out | apply below_alloc | apply pw_below_drewN | apply below_drew1 | refine below_set ?_ (IsS111.ge HI0.out)) | exact HB.out)); rintro e w22 ⟨rfl, hi, hb, hk⟩; refine ⟨_, rfl, ?_⟩; replace HO_5 := Aside0.mk (Kd.R_mono (Kd.R_keep (IsS111.apart (show IsS111 w0 _ g s0_0 x1001_1 x1002_1 from by repeat (first | (with_reducible first | exact HI0.out | apply IsS111.alloc | apply IsS111.drewN | apply IsS111.drew | apply IsS111.set_1 | apply IsS111.set_2) | exact HI0.out)) (kr_ HO_5.out) (by decide)) hk (fun _ h => h.2)) (fun _ h => h.1)); replace HK := Aside0.mk (KeepBut.trans (by repeat (first | (with_reducible first | exact HK.out | apply KeepBut.set_ | apply keep_drewN | apply keep_drew | apply keep_alloc) | exact HK.out)) hk (.inl rfl)); replace HB := Aside0.mk hb; replace HI0 := Aside0.mk hi; clear hb hk hi; obtain ⟨i023, hi023, _, hsz23, _⟩ := info_parts info9; obtain ⟨hcut23, hA23, hC23⟩ := print_take_of (P := Try.prog) Value.string (⟨#[]⟩ : ByteArray) 24 9 .i64 Try.underlying24 hi023 hsz23 A1 c1 l1 x6_1 (of_decide_eq_true as_) (of_decide_eq_true as_) HC1.out; have HR613 := Aside0.mk (Kd.C_of_reads (h1 := fun _ => rfl) (hA23 _ (Kd.reads_of_C HR1.out))); have HC613 := Aside0.mk hC23; have hf613 : ∀ ad : Addr, A1 = some ad → 0 < (l1.take (x6_1 : Int).toNat).length → ad.block ≠ g := fun ad he h_ => (by cases he; exact Kd.foot_ne (fun W_ hk_ => Kd.C_of_reads (h1 := fun _ => rfl) (hA23 _ (Kd.reads_of_C (Kd.C_foot_ne (fun h => h) HR1.out hf1 W_ hk_)))) h_ (by decide)); clear hA23 hC23 hi023 hsz23) | ((with_reducible refine gk_ 72 ?_); refine gl_ 27 Try.func72 #[.slice A1 (l1.take (x6_1 : Int).toNat).length c1] ?_ (hargs := (by (try simp only [List.map_toArray, List.map_cons, List.map_nil]); first | done | (rw [show (l1.take (x6_1 : Int).toNat).length = x6_1.toNat from (by rw [List.length_take]; have h_ : (x6_1 : Int) ≤ (l1.length : Int) := of_decide_eq_true as_; omega)] <;> rfl) | rfl | (simp only [List.length_drop, List.length_take]; rfl))); (with_reducible refine (spec_HeadOf.calls k1 _ _ (l1.take (x6_1 : Int).toNat) t614 t615 _ ?side1 ?side2 A20.out).mono ?_); (case side1 => exact Kd.C_keep (⟨#[]⟩ : ByteArray) HR613.out (by repeat (first | (with_reducible first | exact HK.out | apply KeepBut.set_ | apply keep_drewN | apply keep_drew | apply keep_alloc) | exact HK.out)) hf613); (case side2 => exact HC613.out); rintro e w24 ⟨rfl, hb⟩; refine ⟨_, rfl, ?_⟩; replace HO_5 := rb_ HO_5 hb; replace HK := Aside0.mk (KeepBut.trans (by repeat (first | (with_reducible first | exact HK.out | apply KeepBut.set_ | apply keep_drewN | apply keep_drew | apply keep_alloc) | exact HK.out)) (KeepBut.of_below hb g none) (.inl rfl)); replace HB := Aside0.mk (below_step (bs1_ HB (IsS111.ge HI0.out)) hb); replace HI0 := Aside0.mk (IsS111.below (by repeat (first | (with_reducible first | exact HI0.out | apply IsS111.alloc | apply IsS111.drewN | apply IsS111.drew | apply IsS111.set_1 | apply IsS111.set_2) | exact HI0.out)) hb); clear hb) | ((with_reducible refine gate_builtin (b := .append) (xs := #[.tmp 23, .tmp 28]) rfl ?_); (try (refine gate_guard (by rfl) ?_; dsimp only)); at_builtin; refine Kd.R_append k28 w.heap.size rfl (.tmp 23) (.tmp 28) 35 28 (.agg #[(.int .i64 0), (.string ⟨#[]⟩)]) 24 rfl Try.underlying35 info28 rfl (by decide) (by omega) u5 x5_1 (⟨t614, t615⟩ : S28) [.int .i64 t614, .string t615] (fun _ => True) (fun _ => False) rfl rfl ?aP (fun _ hk => hk.elim) ?aF ?aO (Below.refl _ _) ?aS ?aL ?_; (case aP => exact k28_mkM _ _ _ (⟨t614, t615⟩ : S28)); (case aF => exact (fun _ _ => trivial)); (case aO => exact (kr_ HO_5.out)); (case aS => exact (keep_size (w := w) (g := g) (row := none) (by repeat (first | (with_reducible first | exact HK.out | apply KeepBut.set_ | apply keep_drewN | apply keep_drew | apply keep_alloc) | exact HK.out)))); (case aL => have := LMc21.out; omega); intro v617 w25 ho hb hg hat; rw [← Ny616.out] at ho; replace HB := Aside0.mk (below_weaken (bs1_ HB (IsS111.ge HI0.out)) HL.out hb); replace HI0 := Aside0.mk (IsS111.grown (by repeat (first | (with_reducible first | exact HI0.out | apply IsS111.alloc | apply IsS111.drewN | apply IsS111.drew | apply IsS111.set_1 | apply IsS111.set_2) | exact HI0.out)) hg (IsS111.own_ne HI0.out HO_5.out (by decide))); replace HK := Aside0.mk (KeepBut.trans (by repeat (first | (with_reducible first | exact HK.out | apply KeepBut.set_ | apply keep_drewN | apply keep_drew | apply keep_alloc) | exact HK.out)) (KeepBut.of_grown hg g) (Kd.R_base2 HO_5.out)); have HO618 := Aside0.mk ho; clear HO_5; clear ho hb hg hat))
     go_roundg k1
     case measure => have := HK1.out; omega
     case rel => exact ⟨(y616), (wrap64 (x6_1 + 1)), (t605), (t606), e1_, H', ⟨by have := HK1.out; omega⟩, ⟨kr_ HO618.out⟩, ⟨by repeat (first | (with_reducible first | exact HI0.out | apply IsS111.alloc | apply IsS111.drewN | apply IsS111.drew | apply IsS111.set_1 | apply IsS111.set_2) | exact HI0.out)⟩, ⟨by repeat (first | (with_reducible first | exact HK.out | apply KeepBut.set_ | apply keep_drewN | apply keep_drew | apply keep_alloc) | exact HK.out)⟩, ⟨by repeat (first | (with_reducible first | exact HB.out | apply below_alloc | apply pw_below_drewN | apply below_drew1 | refine below_set ?_ (IsS111.ge HI0.out)) | exact HB.out)⟩⟩
   ·replace H := so3_ H; obtain ⟨rfl, rfl, rfl⟩ := H
    go_wp2
    go_ret
    exact ⟨_, e2_, kr_ HO_5.out, by repeat (first | (with_reducible first | exact HI0.out | apply IsS111.alloc | apply IsS111.drewN | apply IsS111.drew | apply IsS111.set_1 | apply IsS111.set_2) | exact HI0.out), by repeat (first | (with_reducible first | exact HB.out | apply below_alloc | apply pw_below_drewN | apply below_drew1 | refine below_set ?_ (IsS111.ge HI0.out)) | exact HB.out), by repeat (first | (with_reducible first | exact HK.out | apply KeepBut.set_ | apply keep_drewN | apply keep_drew | apply keep_alloc) | exact HK.out)⟩
end Go.Proofs.Ytjnnglphdaemaaa.Q
end

section
/- Drawing yes or no. Plain. -/
namespace Go.Proofs.Ytjnnglphdaemaaa.Q
open Go.RowKit Go.Proofs.Ytjnnglphdaemaaa.B Go.Proofs.YtjnnglphdaemaaaW.PrintWords Go.Proofs.YtjnnglphdaemaaaW.PrintMore
set_option linter.unusedVariables false
set_option linter.unusedSimpArgs false
theorem l1Once_ok {s : List Int} {i : Int} (h n : Int) (hd : Drawer s i) (hn : 1 ≤ n) (hn2 : n ≤ 4294967296) : ∃ b i' h', spec_l1Once.f s i h n = some (b, i', h') ∧ Drawer s i' := by
 obtain ⟨b, i1, h1, e1, _, _, d1⟩ := l1Below_ok h n hd hn hn2
 unfold spec_l1Once.f
 rw [e1]
 exact ⟨_, _, _, rfl, d1⟩
end Go.Proofs.Ytjnnglphdaemaaa.Q
end

section
/- Drawn lists of texts, and tables of heads of their beginnings. Plain. -/
namespace Go.Proofs.Ytjnnglphdaemaaa.Q
open Go.RowKit Go.Proofs.Ytjnnglphdaemaaa.B Go.Proofs.YtjnnglphdaemaaaW.PrintWords Go.Proofs.YtjnnglphdaemaaaW.PrintMore
set_option linter.unusedVariables false
set_option linter.unusedSimpArgs false
def HeadIn (l : List ByteArray) (x : S28) : Prop := ∃ n, n ≤ l.length ∧ x = ⟨(headOf (l.take n)).1, (headOf (l.take n)).2⟩
def lastHead (l : List ByteArray) : S28 := ⟨(headOf l).1, (headOf l).2⟩
theorem l10Table_ev {s : List Int} {i : Int} (h : Int) (hd : Drawer s i) (l : List ByteArray) (hl : l.length ≤ 200) (hs : ∀ x ∈ l, x.size ≤ bigB) :
  ∃ T i' h', Ev (fun k => spec_l10Table.f k s i h l) (T ++ [lastHead l], i', h') ∧ Drawer s i' ∧ T.length ≤ l.length ∧ ∀ x ∈ T, HeadIn l x := by
 have main : ∀ (d n : Nat) (acc : List (S28)) (i h : Int), n + d = l.length → Drawer s i → acc.length ≤ n → (∀ x ∈ acc, HeadIn l x) →
   ∃ T i' h', Ev (fun k => spec_l10Table.l0 k l acc (n : Int) s i h) (T ++ [lastHead l], i', h') ∧ Drawer s i' ∧ T.length ≤ l.length ∧ ∀ x ∈ T, HeadIn l x := by
  intro d
  induction d with
  | zero =>
   intro n acc i h hn hd ha hx
   have hnl : n = l.length := by omega
   subst hnl
   obtain ⟨b, i1, h1, e1, d1⟩ := l1Once_ok h 3 hd (by decide) (by decide)
   have nx : wrap64 ((l.length : Int) + 1) = ((l.length + 1 : Nat) : Int) := by
    rw [w64 (by omega) (by omega)]
    omega
   have hH := spec_HeadOf_ev (l.take l.length) (mem_take_of hs)
   have fin : Ev (fun k => spec_l10Table.l0 k l (acc ++ [lastHead l]) ((l.length + 1 : Nat) : Int) s i1 h1) (acc ++ [lastHead l], i1, h1) := by
    refine Ev.step (f := fun _ => some (acc ++ [lastHead l], i1, h1)) (fun k => ?_) (Ev.now _)
    simp only [spec_l10Table.l0]
    rw [if_neg (by omega)]
   have hl2 : (⟨(headOf (l.take l.length)).1, (headOf (l.take l.length)).2⟩ : S28) = lastHead l := by rw [List.take_length]; rfl
   refine ⟨acc, i1, h1, ?_, d1, by omega, hx⟩
   refine Ev.step (fun k => by simp only [spec_l10Table.l0]; rw [e1]) ?_
   simp only [Option.bind_some]
   rw [nx]
   refine Ev.pos (by omega) ?_
   by_cases hb : b = true
   ·refine Ev.pos hb (Ev.pos trivial (Ev.pos (by omega) (Ev.bind hH (Ev.pos (by omega) ?_))))
    rw [hl2]
    exact fin
   ·refine Ev.neg hb (Ev.pos (by omega) (Ev.bind hH (Ev.pos (by omega) ?_)))
    rw [hl2]
    exact fin
  | succ d ih =>
   intro n acc i h hn hd ha hx
   obtain ⟨b, i1, h1, e1, d1⟩ := l1Once_ok h 3 hd (by decide) (by decide)
   have nx : wrap64 ((n : Int) + 1) = ((n + 1 : Nat) : Int) := by
    rw [w64 (by omega) (by omega)]
    omega
   have hH := spec_HeadOf_ev (l.take n) (mem_take_of hs)
   by_cases hb : b = true
   ·obtain ⟨T, i2, h2, e2, d2, hT, hx2⟩ := ih (n + 1) acc i1 h1 (by omega) d1 (by omega) hx
    refine ⟨T, i2, h2, ?_, d2, hT, hx2⟩
    refine Ev.step (fun k => by simp only [spec_l10Table.l0]; rw [e1]) ?_
    simp only [Option.bind_some]
    rw [nx]
    exact Ev.pos (by omega) (Ev.pos hb (Ev.neg (by omega) e2))
   ·obtain ⟨T, i2, h2, e2, d2, hT, hx2⟩ := ih (n + 1) (acc ++ [⟨(headOf (l.take n)).1, (headOf (l.take n)).2⟩]) i1 h1 (by omega) d1 (by simp; omega) (fun x hm => by
     rcases List.mem_append.1 hm with hm | hm
     ·exact hx x hm
     ·exact ⟨n, by omega, List.mem_singleton.1 hm⟩)
    refine ⟨T, i2, h2, ?_, d2, hT, hx2⟩
    refine Ev.step (fun k => by simp only [spec_l10Table.l0]; rw [e1]) ?_
    simp only [Option.bind_some]
    rw [nx]
    exact Ev.pos (by omega) (Ev.neg hb (Ev.pos (by omega) (Ev.bind hH (Ev.pos (by omega) e2))))
 exact main l.length 0 [] i h (by omega) hd (by simp) (by simp)
end Go.Proofs.Ytjnnglphdaemaaa.Q
end

section
-- Written by a program of this session (wip/tools/pp.sh) over the print of the kit.
namespace Go.Proofs.Ytjnnglphdaemaaa.Q
open Go.RowKit Go.Proofs.YtjnnglphdaemaaaW.PrintWords Go.Proofs.YtjnnglphdaemaaaW.PrintLast Go.Proofs.YtjnnglphdaemaaaW.PrintMore
attribute [local go_sem] max2_int min2_int max_two min_two max_three min_three max_four min_four   -- for this text's walks alone
set_option linter.unusedVariables false
set_option linter.unusedSimpArgs false
def spec_l12Draw.l0 : Nat → List ByteArray → List (S28) → Int → List Int → Int → Int → List ByteArray → Int → ByteArray → List Int → Int → Option (List ByteArray × Int × ByteArray × List Int × Int × List ByteArray × (List (S28)) × Int × Int)
 | 0, _, _, _, _, _, _, _, _, _, _, _ => none
 | k + 1, x5, x6, x8, x1000, x1001, x1002, x625000, x625001, x625002, x625003, x625004 => if x8 > 0 then (if (x625000.length : Int) < (x5.length : Int) then ((spec_l1Below.f x1000 x1001 x1002 (wrap64 ((x5.length : Int) - (x625000.length : Int)))).bind fun bt628 => (if 0 ≤ (wrap64 ((wrap64 ((x625000.length : Int) + 1)) + bt628.1)) then (if (wrap64 ((wrap64 ((x625000.length : Int) + 1)) + bt628.1)) ≤ (x5.length : Int) then ((spec_HeadOf.f k (x5.take ((wrap64 ((wrap64 ((x625000.length : Int) + 1)) + bt628.1)) : Int).toNat)).bind fun bt635 => (if 0 ≤ (x625000.length : Int) then (if (x625000.length : Int) ≤ (wrap64 ((wrap64 ((x625000.length : Int) + 1)) + bt628.1)) then ((spec_l12Commit.f k x625000 x625001 x625002 x625003 x625004 x6 bt635.1 bt635.2 ((x5.take ((wrap64 ((wrap64 ((x625000.length : Int) + 1)) + bt628.1)) : Int).toNat).drop ((x625000.length : Int) : Int).toNat)).bind fun bt641 => ((spec_l1Once.f x1000 bt628.2.1 bt628.2.2 3).bind fun bt651 => (if bt651.1 = true then (spec_l12Draw.l0 k x5 x6 (wrap64 (x8 - 1)) x1000 bt651.2.1 bt651.2.2 bt641.1 bt641.2.1 bt641.2.2.1 bt641.2.2.2.1 (bt641.2.2.2.1.length : Int)) else (spec_l12Draw.l0 k x5 x6 (wrap64 (x8 - 1)) x1000 bt651.2.1 bt651.2.2 bt641.1 bt641.2.1 bt641.2.2.1 bt641.2.2.2.1 bt641.2.2.2.2.1)))) else (none)) else (none))) else (none)) else (none))) else ((spec_l1Once.f x1000 x1001 x1002 3).bind fun bt654 => (if bt654.1 = true then (spec_l12Draw.l0 k x5 x6 (wrap64 (x8 - 1)) x1000 bt654.2.1 bt654.2.2 x625000 x625001 x625002 x625003 (x625003.length : Int)) else (spec_l12Draw.l0 k x5 x6 (wrap64 (x8 - 1)) x1000 bt654.2.1 bt654.2.2 x625000 x625001 x625002 x625003 x625004)))) else (some (x625000, x625001, x625002, x625003, x625004, x5, x6, x1001, x1002))
def spec_l12Draw.f (k : Nat) (s0_0 : List Int) (s0_1 : Int) (s0_2 : Int) : Option (List ByteArray × Int × ByteArray × List Int × Int × List ByteArray × (List (S28)) × Int × Int) := (spec_l6List.f k s0_0 s0_1 s0_2).bind fun bt602 => (if bt602.1.length < 8796093022208 then ((some (bt602.1 ++ [(⟨#[113]⟩ : ByteArray)] : List ByteArray)).bind fun y607 => ((spec_l10Table.f k s0_0 bt602.2.1 bt602.2.2 y607).bind fun bt610 => ((spec_StoreNew.f k).bind fun bt615 => ((spec_l1Below.f s0_0 bt610.2.1 bt610.2.2 4).bind fun bt625 => (spec_l12Draw.l0 k y607 bt610.1 bt625.1 s0_0 bt625.2.1 bt625.2.2 bt615.1 bt615.2.1 bt615.2.2.1 bt615.2.2.2.1 bt615.2.2.2.2))))) else (none))
def spec_l12Draw.T10 : Bool × List (List Nat × List Nat) := (true, [([], []), ([], []), ([], []), ([], []), ([2, 3], [2, 3]), ([4], [4]), ([], []), ([], []), ([], []), ([6, 7, 8], [6, 7, 8]), ([0, 1, 5, 9, 5], [0, 1, 5, 9]), ([10], [10]), ([11], [11]), ([11], [11]), ([12, 10, 0, 1, 2, 3, 4, 5, 6, 7, 8, 9, 10, 11, 12], [12])])
def spec_l12Draw.B10 : List Nat := [0, 0, 0, 0, 12, 28, 0, 0, 0, 448, 1023, 2047, 4095, 4095, 8191]
theorem spec_l12Draw.tab10 : rtab .any (opsOf Try.f84 10) = spec_l12Draw.T10 := by kernel_rfl
theorem spec_l12Draw.bits10 : waitsOk spec_l12Draw.T10.2 spec_l12Draw.B10 = true := by kernel_rfl
set_option maxHeartbeats 8000000 in
set_option maxRecDepth 100000 in
theorem spec_l12Draw.calls (k : Nat) (g : Nat) (s0_0 : List Int) (s0_1 : Int) (s0_2 : Int) (r1 : List ByteArray) (r2 : Int) (r3 : ByteArray) (r4 : List Int) (r5 : Int) (r6 : List ByteArray) (r7 : List (S28)) (r8 : Int) (r9 : Int) (w0 w : World) (hI : IsS111 w0 w g s0_0 s0_1 s0_2) (hB : Below w0.heap.size w0 w) (h : spec_l12Draw.f k s0_0 s0_1 s0_2 = some (r1, r2, r3, r4, r5, r6, r7, r8, r9)) :
  Calls Try.prog 84 #[.pointer (some ⟨g, 0, none⟩)] w fun e w' => ∃ v0_ v3_ v5_ v6_ : Value, e = .returned (.tuple #[.agg #[v0_, .int .i64 r2, .string r3, v3_, .int .i64 r5], v5_, v6_]) ∧ Kd.R Kd.string 9 w' w.heap.size (fun k_ => some k_ ≠ (v5_ : Value).ownBlock) v0_ r1 ∧ Kd.R (Kd.int .u8) 5 w' w.heap.size (fun _ => True) v3_ r4 ∧ Kd.R Kd.string 9 w' w.heap.size (fun k_ => some k_ ≠ (v0_ : Value).ownBlock) v5_ r6 ∧ Kd.R k28 28 w' w.heap.size (fun _ => True) v6_ r7 ∧ IsS111 w0 w' g s0_0 r8 r9 ∧ Below w0.heap.size w0 w' ∧ KeepBut w w' g none := by
 have hu37 := Try.underlying37
 have HI0 := Aside0.mk hI
 have HK := Aside0.mk (KeepBut.refl w g none)
 have HL := Aside0.mk hB.size
 clear hI
 have HW0 := Aside0.mk hB.size
 have HB := Aside0.mk hB
 clear hB
 have H : ((spec_l6List.f k s0_0 s0_1 s0_2).bind fun bt602 => (if bt602.1.length < 8796093022208 then ((some (bt602.1 ++ [(⟨#[113]⟩ : ByteArray)] : List ByteArray)).bind fun y607 => ((spec_l10Table.f k s0_0 bt602.2.1 bt602.2.2 y607).bind fun bt610 => ((spec_StoreNew.f k).bind fun bt615 => ((spec_l1Below.f s0_0 bt610.2.1 bt610.2.2 4).bind fun bt625 => (spec_l12Draw.l0 k y607 bt610.1 bt625.1 s0_0 bt625.2.1 bt625.2.2 bt615.1 bt615.2.1 bt615.2.2.1 bt615.2.2.2.1 bt615.2.2.2.2))))) else (none))) = some (r1, r2, r3, r4, r5, r6, r7, r8, r9) := h
 clear h
 replace H := bi_ H; obtain ⟨⟨t602, t605, t606⟩, A2, H⟩ := H
 dsimp only at H
 replace H := ip_ H; obtain ⟨c3, H⟩ := H
 have LMc3 := Aside0.mk c3
 clear c3
 obtain ⟨y607, Ny607, H⟩ := sb_ (t602 ++ [(⟨#[113]⟩ : ByteArray)]) H
 replace H := bi_ H; obtain ⟨⟨t610, t613, t614⟩, A4, H⟩ := H
 dsimp only at H
 replace H := bi_ H; obtain ⟨⟨t615, t618, t619, t620, t623⟩, A5, H⟩ := H
 dsimp only at H
 replace H := bi_ H; obtain ⟨⟨t625, t626, t627⟩, A6, H⟩ := H
 dsimp only at H
 have H' := Aside0.mk H
 clear H
 go_enter Try.func84, Try.ntmps84
 go_wp2_with (first | ((with_reducible refine gd_ 2 ?_); refine bx_ 2 37 #[.slice none 0 0, .int .i64 0, .string (⟨#[]⟩ : ByteArray), .slice none 0 0, .int .i64 0] ?_; intro gb601 hg w7 hbox hb; replace HB := Aside0.mk (below_step (bs1_ HB (IsS111.ge HI0.out)) hb); have BK601 := Aside0.mk hbox; have GW601 := Aside0.mk ((by rw [hg]; exact (keep_size (w := w) (g := g) (row := none) (by repeat (first | (with_reducible first | exact HK.out | apply KeepBut.set_ | apply keep_drewN | apply keep_drew | apply keep_alloc) | exact HK.out))) : w.heap.size ≤ gb601)); have GE601 := Aside0.mk ((Nat.le_trans HW0.out (by rw [hg]; exact (keep_size (w := w) (g := g) (row := none) (by repeat (first | (with_reducible first | exact HK.out | apply KeepBut.set_ | apply keep_drewN | apply keep_drew | apply keep_alloc) | exact HK.out))) : w.heap.size ≤ gb601) : w0.heap.size ≤ gb601)); replace HK := Aside0.mk (KeepBut.trans (by repeat (first | (with_reducible first | exact HK.out | apply KeepBut.set_ | apply keep_drewN | apply keep_drew | apply keep_alloc) | exact HK.out)) (KeepBut.of_below hb g none) (.inl rfl)); have NB0_601 := Aside0.mk ((by rw [hg]; exact Nat.ne_of_lt (IsS111.lt (show IsS111 w0 _ g s0_0 s0_1 s0_2 from by repeat (first | (with_reducible first | exact HI0.out | apply IsS111.alloc | apply IsS111.drewN | apply IsS111.drew | apply IsS111.set_1 | apply IsS111.set_2) | exact HI0.out))) : g ≠ gb601)); have NB601_0 := Aside0.mk ((by rw [hg]; exact Nat.ne_of_gt (IsS111.lt (show IsS111 w0 _ g s0_0 s0_1 s0_2 from by repeat (first | (with_reducible first | exact HI0.out | apply IsS111.alloc | apply IsS111.drewN | apply IsS111.drew | apply IsS111.set_1 | apply IsS111.set_2) | exact HI0.out))) : gb601 ≠ g)); replace HI0 := Aside0.mk (IsS111.below (by repeat (first | (with_reducible first | exact HI0.out | apply IsS111.alloc | apply IsS111.drewN | apply IsS111.drew | apply IsS111.set_1 | apply IsS111.set_2) | exact HI0.out)) hb); clear hb hbox hg) | ((with_reducible refine gk_ 60 ?_); refine gl_ 12 Try.func60 #[.pointer (some ⟨g, 0, none⟩)] ?_; (with_reducible refine (spec_l6List.calls k g s0_0 s0_1 s0_2 t602 t605 t606 w0 _ ?side1 ?side2 A2.out).mono ?_); (case side1 => repeat (first | (with_reducible first | exact HI0.out | apply IsS111.alloc | apply IsS111.drewN | apply IsS111.drew | apply IsS111.set_1 | apply IsS111.set_2 | refine IsS111.far ?_ NB0_601.out _) | exact HI0.out)); (case side2 => repeat (first | (with_reducible first | exact HB.out | apply below_alloc | apply pw_below_drewN | apply below_drew1 | refine below_set ?_ (IsS111.ge HI0.out) | refine below_set ?_ GE601.out) | exact HB.out)); rintro e w8 ⟨v603, rfl, ho0, hi, hb, hk⟩; refine ⟨_, rfl, ?_⟩; replace BK601 := Aside0.mk (KeepBut.blk hk (g' := gb601) (o := .cells #[.slice none 0 0, .int .i64 0, .string (⟨#[]⟩ : ByteArray), .slice none 0 0, .int .i64 0] 37 (0, 0)) (kb_ BK601.out) NB601_0.out (by simp)); have HO604 := Aside0.mk (Kd.R_lower ho0 (keep_size (w := w) (g := g) (row := none) (by repeat (first | (with_reducible first | exact HK.out | apply KeepBut.set_ | apply keep_drewN | apply keep_drew | apply keep_alloc | refine keep_far ?_ GW601.out _) | exact HK.out)))); replace HK := Aside0.mk (KeepBut.trans (by repeat (first | (with_reducible first | exact HK.out | apply KeepBut.set_ | apply keep_drewN | apply keep_drew | apply keep_alloc | refine keep_far ?_ GW601.out _) | exact HK.out)) hk (.inl rfl)); replace HB := Aside0.mk hb; replace HI0 := Aside0.mk hi; clear hb hk hi ho0) | ((with_reducible refine gate_builtin (b := .append) (xs := #[.tmp 12, .tmp 13]) rfl ?_); at_builtin; refine Kd.R_append Kd.string w.heap.size rfl (.tmp 12) (.tmp 13) 24 9 (.string ⟨#[]⟩) 16 rfl Try.underlying24 info9 rfl (by decide) (by omega) v603 t602 (⟨#[113]⟩ : ByteArray) [.string (⟨#[113]⟩ : ByteArray)] (fun _ => True) (fun _ => False) rfl rfl ?aP (fun _ hk => hk.elim) ?aF ?aO (Below.refl _ _) ?aS ?aL ?_; (case aP => exact rfl); (case aF => exact (fun _ _ => trivial)); (case aO => exact (kr_ HO604.out)); (case aS => exact (keep_size (w := w) (g := g) (row := none) (by repeat (first | (with_reducible first | exact HK.out | apply KeepBut.set_ | apply keep_drewN | apply keep_drew | apply keep_alloc | refine keep_far ?_ GW601.out _) | exact HK.out)))); (case aL => have := LMc3.out; omega); intro v608 w9 ho hb hg hat; rw [← Ny607.out] at ho; replace BK601 := kg_ BK601 HO604 hg; replace HB := Aside0.mk (below_weaken (bs2_ HB (IsS111.ge HI0.out) GE601.out) HL.out hb); replace HI0 := Aside0.mk (IsS111.grown (by repeat (first | (with_reducible first | exact HI0.out | apply IsS111.alloc | apply IsS111.drewN | apply IsS111.drew | apply IsS111.set_1 | apply IsS111.set_2 | refine IsS111.far ?_ NB0_601.out _) | exact HI0.out)) hg (IsS111.own_ne HI0.out HO604.out (by decide))); replace HK := Aside0.mk (KeepBut.trans (by repeat (first | (with_reducible first | exact HK.out | apply KeepBut.set_ | apply keep_drewN | apply keep_drew | apply keep_alloc | refine keep_far ?_ GW601.out _) | exact HK.out)) (KeepBut.of_grown hg g) (Kd.R_base2 HO604.out)); have HO609 := Aside0.mk ho; clear HO604; clear ho hb hg hat; obtain ⟨Ao10, co10, eo10⟩ := Kd.R_slice HO609.out; subst eo10) | ((with_reducible refine gk_ 71 ?_); refine gl_ 17 Try.func71 #[.pointer (some ⟨g, 0, none⟩), .slice Ao10 y607.length co10] ?_; (with_reducible refine (spec_l10Table.calls k g s0_0 t605 t606 _ _ y607 t610 t613 t614 w0 _ ?side1 ?side2 ?side3 ?side4 ?side5 A4.out).mono ?_); (case side1 => repeat (first | (with_reducible first | exact HI0.out | apply IsS111.alloc | apply IsS111.drewN | apply IsS111.drew | apply IsS111.set_1 | apply IsS111.set_2 | refine IsS111.far ?_ NB0_601.out _) | exact HI0.out)); (case side2 => repeat (first | (with_reducible first | exact HB.out | apply below_alloc | apply pw_below_drewN | apply below_drew1 | refine below_set ?_ (IsS111.ge HI0.out) | refine below_set ?_ GE601.out) | exact HB.out)); (case side3 => exact ch_ HO609); (case side4 => exact (cl_ HO609)); (case side5 => exact far_slice (IsS111.own_ne HI0.out HO609.out (by decide))); rintro e w11 ⟨v611, rfl, ho0, hi, hb, hk⟩; refine ⟨_, rfl, ?_⟩; replace BK601 := Aside0.mk (KeepBut.blk hk (g' := gb601) (o := .cells #[.slice none 0 0, .int .i64 0, .string (⟨#[]⟩ : ByteArray), .slice none 0 0, .int .i64 0] 37 (0, 0)) (kb_ BK601.out) NB601_0.out (by simp)); replace HO609 := Aside0.mk (Kd.R_mono (Kd.R_keep (IsS111.apart (show IsS111 w0 _ g s0_0 t605 t606 from by repeat (first | (with_reducible first | exact HI0.out | apply IsS111.alloc | apply IsS111.drewN | apply IsS111.drew | apply IsS111.set_1 | apply IsS111.set_2 | refine IsS111.far ?_ NB0_601.out _) | exact HI0.out)) (kr_ HO609.out) (by decide)) hk (fun _ h => h.2)) (fun _ h => h.1)); have HO612 := Aside0.mk (Kd.R_lower ho0 (keep_size (w := w) (g := g) (row := none) (by repeat (first | (with_reducible first | exact HK.out | apply KeepBut.set_ | apply keep_drewN | apply keep_drew | apply keep_alloc | refine keep_far ?_ GW601.out _) | exact HK.out)))); replace HK := Aside0.mk (KeepBut.trans (by repeat (first | (with_reducible first | exact HK.out | apply KeepBut.set_ | apply keep_drewN | apply keep_drew | apply keep_alloc | refine keep_far ?_ GW601.out _) | exact HK.out)) hk (.inl rfl)); replace HB := Aside0.mk hb; replace HI0 := Aside0.mk hi; clear hb hk hi ho0) | ((with_reducible refine gq_ 95 18 ?_); refine gc_ 18 Try.func95 (spec_StoreNew.calls k  t615 t618 t619 t620 t623 _ A5.out) ?_; rintro e w12 ⟨v616, v621, rfl, ho0, ho1, hb⟩; refine ⟨_, rfl, ?_⟩; replace HO612 := rb_ HO612 hb; have HO617 := Aside0.mk (Kd.R_lower (Kd.R_new' ho0 (lt_ HO609)) (keep_size (w := w) (g := g) (row := none) (by repeat (first | (with_reducible first | exact HK.out | apply KeepBut.set_ | apply keep_drewN | apply keep_drew | apply keep_alloc | refine keep_far ?_ GW601.out _) | exact HK.out)))); replace HO609 := re_ HO609 ho0 hb; have HO622 := Aside0.mk (Kd.R_lower ho1 (keep_size (w := w) (g := g) (row := none) (by repeat (first | (with_reducible first | exact HK.out | apply KeepBut.set_ | apply keep_drewN | apply keep_drew | apply keep_alloc | refine keep_far ?_ GW601.out _) | exact HK.out)))); replace BK601 := kl_ BK601 hb; replace HK := Aside0.mk (KeepBut.trans (by repeat (first | (with_reducible first | exact HK.out | apply KeepBut.set_ | apply keep_drewN | apply keep_drew | apply keep_alloc | refine keep_far ?_ GW601.out _) | exact HK.out)) (KeepBut.of_below hb g none) (.inl rfl)); replace HB := Aside0.mk (below_step (bs2_ HB (IsS111.ge HI0.out) GE601.out) hb); replace HI0 := Aside0.mk (IsS111.below (by repeat (first | (with_reducible first | exact HI0.out | apply IsS111.alloc | apply IsS111.drewN | apply IsS111.drew | apply IsS111.set_1 | apply IsS111.set_2 | refine IsS111.far ?_ NB0_601.out _) | exact HI0.out)) hb); clear hb ho0 ho1) | ((with_reducible refine gd_ 7 ?_); refine bx_ 7 37 #[.slice none 0 0, .int .i64 0, .string (⟨#[]⟩ : ByteArray), .slice none 0 0, .int .i64 0] ?_; intro gb624 hg w13 hbox hb; replace HO609 := rb_ HO609 hb; replace HO612 := rb_ HO612 hb; replace HO617 := rb_ HO617 hb; replace HO622 := rb_ HO622 hb; replace HB := Aside0.mk (below_step (bs2_ HB (IsS111.ge HI0.out) GE601.out) hb); have BK624 := Aside0.mk hbox; have GW624 := Aside0.mk ((by rw [hg]; exact (keep_size (w := w) (g := g) (row := none) (by repeat (first | (with_reducible first | exact HK.out | apply KeepBut.set_ | apply keep_drewN | apply keep_drew | apply keep_alloc | refine keep_far ?_ GW601.out _) | exact HK.out))) : w.heap.size ≤ gb624)); have GE624 := Aside0.mk ((Nat.le_trans HW0.out (by rw [hg]; exact (keep_size (w := w) (g := g) (row := none) (by repeat (first | (with_reducible first | exact HK.out | apply KeepBut.set_ | apply keep_drewN | apply keep_drew | apply keep_alloc | refine keep_far ?_ GW601.out _) | exact HK.out))) : w.heap.size ≤ gb624) : w0.heap.size ≤ gb624)); replace HK := Aside0.mk (KeepBut.trans (by repeat (first | (with_reducible first | exact HK.out | apply KeepBut.set_ | apply keep_drewN | apply keep_drew | apply keep_alloc | refine keep_far ?_ GW601.out _) | exact HK.out)) (KeepBut.of_below hb g none) (.inl rfl)); have NB601_624 := Aside0.mk ((by rw [hg]; exact Nat.ne_of_lt (blk_lt (kb_ BK601.out)) : gb601 ≠ gb624)); have NB624_601 := Aside0.mk ((by rw [hg]; exact Nat.ne_of_gt (blk_lt (kb_ BK601.out)) : gb624 ≠ gb601)); replace BK601 := kl_ BK601 hb; have NB0_624 := Aside0.mk ((by rw [hg]; exact Nat.ne_of_lt (IsS111.lt (show IsS111 w0 _ g s0_0 t613 t614 from by repeat (first | (with_reducible first | exact HI0.out | apply IsS111.alloc | apply IsS111.drewN | apply IsS111.drew | apply IsS111.set_1 | apply IsS111.set_2 | refine IsS111.far ?_ NB0_601.out _) | exact HI0.out))) : g ≠ gb624)); have NB624_0 := Aside0.mk ((by rw [hg]; exact Nat.ne_of_gt (IsS111.lt (show IsS111 w0 _ g s0_0 t613 t614 from by repeat (first | (with_reducible first | exact HI0.out | apply IsS111.alloc | apply IsS111.drewN | apply IsS111.drew | apply IsS111.set_1 | apply IsS111.set_2 | refine IsS111.far ?_ NB0_601.out _) | exact HI0.out))) : gb624 ≠ g)); replace HI0 := Aside0.mk (IsS111.below (by repeat (first | (with_reducible first | exact HI0.out | apply IsS111.alloc | apply IsS111.drewN | apply IsS111.drew | apply IsS111.set_1 | apply IsS111.set_2 | refine IsS111.far ?_ NB0_601.out _) | exact HI0.out)) hb); clear hb hbox hg; obtain ⟨Ao14, co14, eo14⟩ := Kd.R_slice HO617.out; subst eo14; have hnb15 := NB624_601.out; have hnc15 := NB601_624.out; have hnb16 := NB624_0.out; have hnc16 := NB0_624.out; have hz17 := cz5_ BK624; obtain ⟨Ao18, co18, eo18⟩ := Kd.R_slice HO622.out; subst eo18) | ((with_reducible refine gk_ 61 ?_); refine gl_ 20 Try.func61 #[.pointer (some ⟨g, 0, none⟩), .int .i64 4] ?_; (with_reducible refine (spec_l1Below.calls g s0_0 t613 t614 4 t625 t626 t627 w0 _ ?side1 ?side2 A6.out).mono ?_); (case side1 => repeat (first | (with_reducible first | exact HI0.out | apply IsS111.alloc | apply IsS111.drewN | apply IsS111.drew | apply IsS111.set_1 | apply IsS111.set_2 | refine IsS111.far ?_ NB0_601.out _ | refine IsS111.far ?_ NB0_624.out _) | exact HI0.out)); (case side2 => repeat (first | (with_reducible first | exact HB.out | apply below_alloc | apply pw_below_drewN | apply below_drew1 | refine below_set ?_ (IsS111.ge HI0.out) | refine below_set ?_ GE601.out | refine below_set ?_ GE624.out) | exact HB.out)); rintro e w19 ⟨rfl, hi, hb, hk⟩; refine ⟨_, rfl, ?_⟩; replace BK601 := Aside0.mk (KeepBut.blk hk (g' := gb601) (o := .cells #[.slice none 0 0, .int .i64 0, .string (⟨#[]⟩ : ByteArray), .slice none 0 0, .int .i64 0] 37 (0, 0)) (kq_ BK601) NB601_0.out (by simp)); replace HO609 := Aside0.mk (Kd.R_mono (Kd.R_keep (IsS111.apart (show IsS111 w0 _ g s0_0 t613 t614 from by repeat (first | (with_reducible first | exact HI0.out | apply IsS111.alloc | apply IsS111.drewN | apply IsS111.drew | apply IsS111.set_1 | apply IsS111.set_2 | refine IsS111.far ?_ NB0_601.out _ | refine IsS111.far ?_ NB0_624.out _) | exact HI0.out)) (kf_ HO609 BK624) (by decide)) hk (fun _ h => h.2)) (fun _ h => h.1)); replace HO612 := Aside0.mk (Kd.R_mono (Kd.R_keep (IsS111.apart (show IsS111 w0 _ g s0_0 t613 t614 from by repeat (first | (with_reducible first | exact HI0.out | apply IsS111.alloc | apply IsS111.drewN | apply IsS111.drew | apply IsS111.set_1 | apply IsS111.set_2 | refine IsS111.far ?_ NB0_601.out _ | refine IsS111.far ?_ NB0_624.out _) | exact HI0.out)) (kf_ HO612 BK624) (by decide)) hk (fun _ h => h.2)) (fun _ h => h.1)); replace HO617 := Aside0.mk (Kd.R_mono (Kd.R_keep (IsS111.apart (show IsS111 w0 _ g s0_0 t613 t614 from by repeat (first | (with_reducible first | exact HI0.out | apply IsS111.alloc | apply IsS111.drewN | apply IsS111.drew | apply IsS111.set_1 | apply IsS111.set_2 | refine IsS111.far ?_ NB0_601.out _ | refine IsS111.far ?_ NB0_624.out _) | exact HI0.out)) (kf_ HO617 BK624) (by decide)) hk (fun _ h => h.2)) (fun _ h => h.1)); replace HO622 := Aside0.mk (Kd.R_mono (Kd.R_keep (IsS111.apart (show IsS111 w0 _ g s0_0 t613 t614 from by repeat (first | (with_reducible first | exact HI0.out | apply IsS111.alloc | apply IsS111.drewN | apply IsS111.drew | apply IsS111.set_1 | apply IsS111.set_2 | refine IsS111.far ?_ NB0_601.out _ | refine IsS111.far ?_ NB0_624.out _) | exact HI0.out)) (kf_ HO622 BK624) (by decide)) hk (fun _ h => h.2)) (fun _ h => h.1)); replace BK624 := Aside0.mk (KeepBut.blk hk (g' := gb624) (o := .cells #[.slice Ao14 t615.length co14, .int .i64 t618, .string t619, .slice Ao18 t620.length co18, .int .i64 t623] 37 (0, 0)) (kq_ BK624) NB624_0.out (by simp)); replace HK := Aside0.mk (KeepBut.trans (by repeat (first | (with_reducible first | exact HK.out | apply KeepBut.set_ | apply keep_drewN | apply keep_drew | apply keep_alloc | refine keep_far ?_ GW601.out _ | refine keep_far ?_ GW624.out _) | exact HK.out)) hk (.inl rfl)); replace HB := Aside0.mk hb; replace HI0 := Aside0.mk hi; clear hb hk hi))
 go_loopg [8] k (fun kq v8 w' => ∃ (x8_1 : Int) (x1001_1 : Int) (x1002_1 : Int) (x625000_1 : List ByteArray) (x625001_1 : Int) (x625002_1 : ByteArray) (x625003_1 : List Int) (x625004_1 : Int) (u625000 : Value) (u625003 : Value), v8 = .int .i64 x8_1 ∧ Aside0 (spec_l12Draw.l0 kq y607 t610 x8_1 s0_0 x1001_1 x1002_1 x625000_1 x625001_1 x625002_1 x625003_1 x625004_1 = some (r1, r2, r3, r4, r5, r6, r7, r8, r9)) ∧ Aside0 (kq ≤ k) ∧ Aside0 (Kd.R Kd.string 9 w' w.heap.size (fun k_ => some k_ ≠ (u625000 : Value).ownBlock) (.slice Ao10 y607.length co10) y607) ∧ Aside0 (Kd.R k28 28 w' w.heap.size (fun _ => True) v611 t610) ∧ Aside0 (Kd.R Kd.string 9 w' w.heap.size (fun k_ => some k_ ≠ ((.slice Ao10 y607.length co10) : Value).ownBlock) u625000 x625000_1) ∧ Aside0 (Kd.R (Kd.int .u8) 5 w' w.heap.size (fun _ => True) u625003 x625003_1) ∧ Aside0 (w'.heap[gb601]? = some (.cells #[(.slice none 0 0), .int .i64 0, .string (⟨#[]⟩ : ByteArray), (.slice none 0 0), .int .i64 0] 37 (0, 0))) ∧ Aside0 (w'.heap[gb624]? = some (.cells #[u625000, .int .i64 x625001_1, .string x625002_1, u625003, .int .i64 x625004_1] 37 (0, 0))) ∧ Aside0 (IsS111 w0 w' g s0_0 x1001_1 x1002_1) ∧ Aside0 (KeepBut w w' g none) ∧ Aside0 (Below w0.heap.size w0 w'))
 case atStart => exact ⟨(t625), (t626), (t627), (t615), (t618), (t619), (t620), (t623), (.slice Ao14 t615.length co14), (.slice Ao18 t620.length co18), e1_, H', ⟨Nat.le_refl _⟩, ⟨by (with_reducible repeat (first | apply Kd.R_alloc | apply Kd.R_drewN | apply Kd.R_drew)); exact Kd.R_mono HO609.out (fun _ hk => hk.2)⟩, ⟨kr_ HO612.out⟩, ⟨by (with_reducible repeat (first | apply Kd.R_alloc | apply Kd.R_drewN | apply Kd.R_drew)); exact Kd.R_mono HO617.out (fun _ hk => hk.2)⟩, ⟨kr_ HO622.out⟩, ⟨kb_ BK601.out⟩, ⟨kb_ BK624.out⟩, ⟨by repeat (first | (with_reducible first | exact HI0.out | apply IsS111.alloc | apply IsS111.drewN | apply IsS111.drew | apply IsS111.set_1 | apply IsS111.set_2 | refine IsS111.far ?_ NB0_601.out _ | refine IsS111.far ?_ NB0_624.out _) | exact HI0.out)⟩, ⟨by repeat (first | (with_reducible first | exact HK.out | apply KeepBut.set_ | apply keep_drewN | apply keep_drew | apply keep_alloc | refine keep_far ?_ GW601.out _ | refine keep_far ?_ GW624.out _) | exact HK.out)⟩, ⟨by repeat (first | (with_reducible first | exact HB.out | apply below_alloc | apply pw_below_drewN | apply below_drew1 | refine below_set ?_ (IsS111.ge HI0.out) | refine below_set ?_ GE601.out | refine below_set ?_ GE624.out) | exact HB.out)⟩⟩
 case round =>
  clear H'
  try clear c3
  try clear hz17
  obtain ⟨x8_1, x1001_1, x1002_1, x625000_1, x625001_1, x625002_1, x625003_1, x625004_1, u625000, u625003, rfl, HA, HK1, HO_5, HO_6, HO_625000, HO_625003, BK601, BK624, HI0, HK, HB⟩ := hrel
  cases gk with
  | zero => exact absurd HA.out (by simp [spec_l12Draw.l0])
  | succ k1 =>
   have H := HA.out
   clear HA
   simp only [spec_l12Draw.l0] at H
   replace H := it_ H; obtain ⟨c20, H⟩ | ⟨c20, H⟩ := H
   ·have c20b0 : decide (0 < x8_1) = true := decide_eq_true c20
    clear c20
    replace H := it_ H; obtain ⟨c21, H⟩ | ⟨c21, H⟩ := H
    ·have c21b0 := decide_eq_true c21
     have c21b1 : decide (x625000_1.length < y607.length) = true := decide_eq_true (Int.ofNat_lt.mp c21)
     clear c21
     replace H := bi_ H; obtain ⟨⟨t628, t629, t630⟩, A22, H⟩ := H
     dsimp only at H
     generalize hji23 : (wrap64 ((wrap64 ((x625000_1.length : Int) + 1)) + t628)) = ji23 at H
     (try rw [hji23] at A22)
     have hji23w : (IntKind.i64.wrap ((wrap64 ((x625000_1.length : Int) + 1)) + t628)) = ji23 := (i64_w _).trans hji23
     replace H := ip_ H; obtain ⟨c24, H⟩ := H
     have c24b0 := eq_true c24
     have c24b1 := decide_eq_true c24
     clear c24
     replace H := ip_ H; obtain ⟨c25, H⟩ := H
     have c25b0 := eq_true c25
     have c25b1 := decide_eq_true c25
     clear c25
     obtain ⟨y631, hy631⟩ : ∃ y_ : List ByteArray, y_ = (y607.take ((ji23) : Int).toNat) := ⟨_, rfl⟩
     replace H : ((spec_HeadOf.f k1 y631).bind fun bt635 => (if 0 ≤ (x625000_1.length : Int) then (if (x625000_1.length : Int) ≤ (ji23) then ((spec_l12Commit.f k1 x625000_1 x625001_1 x625002_1 x625003_1 x625004_1 t610 bt635.1 bt635.2 ((y607.take ((ji23) : Int).toNat).drop ((x625000_1.length : Int) : Int).toNat)).bind fun bt641 => ((spec_l1Once.f s0_0 t629 t630 3).bind fun bt651 => (if bt651.1 = true then (spec_l12Draw.l0 k1 y607 t610 (wrap64 (x8_1 - 1)) s0_0 bt651.2.1 bt651.2.2 bt641.1 bt641.2.1 bt641.2.2.1 bt641.2.2.2.1 (bt641.2.2.2.1.length : Int)) else (spec_l12Draw.l0 k1 y607 t610 (wrap64 (x8_1 - 1)) s0_0 bt651.2.1 bt651.2.2 bt641.1 bt641.2.1 bt641.2.2.1 bt641.2.2.2.1 bt641.2.2.2.2.1)))) else (none)) else (none))) = some (r1, r2, r3, r4, r5, r6, r7, r8, r9) := yh_ hy631 H
     have Ny631 := Aside0.mk hy631
     clear hy631
     replace H := bi_ H; obtain ⟨⟨t635, t636⟩, A26, H⟩ := H
     dsimp only at H
     replace H := ip_ H; obtain ⟨c27, H⟩ := H
     have c27b0 := eq_true c27
     have c27b1 := decide_eq_true c27
     clear c27
     replace H := ip_ H; obtain ⟨c28, H⟩ := H
     have c28b0 := eq_true c28
     have c28b1 := decide_eq_true c28
     clear c28
     have c29b0 := eq_true (of_decide_eq_true as_ : (ji23) ≤ (y607.length : Int))
     obtain ⟨y637, hy637⟩ : ∃ y_ : List ByteArray, y_ = ((y607.take ((ji23) : Int).toNat).drop ((x625000_1.length : Int) : Int).toNat) := ⟨_, rfl⟩
     replace H : ((spec_l12Commit.f k1 x625000_1 x625001_1 x625002_1 x625003_1 x625004_1 t610 t635 t636 y637).bind fun bt641 => ((spec_l1Once.f s0_0 t629 t630 3).bind fun bt651 => (if bt651.1 = true then (spec_l12Draw.l0 k1 y607 t610 (wrap64 (x8_1 - 1)) s0_0 bt651.2.1 bt651.2.2 bt641.1 bt641.2.1 bt641.2.2.1 bt641.2.2.2.1 (bt641.2.2.2.1.length : Int)) else (spec_l12Draw.l0 k1 y607 t610 (wrap64 (x8_1 - 1)) s0_0 bt651.2.1 bt651.2.2 bt641.1 bt641.2.1 bt641.2.2.1 bt641.2.2.2.1 bt641.2.2.2.2.1)))) = some (r1, r2, r3, r4, r5, r6, r7, r8, r9) := yh_ hy637 H
     have Ny637 := Aside0.mk hy637
     clear hy637
     replace H := bi_ H; obtain ⟨⟨t641, t644, t645, t646, t649, t650⟩, A30, H⟩ := H
     dsimp only at H
     replace H := bi_ H; obtain ⟨⟨t651, t652, t653⟩, A31, H⟩ := H
     dsimp only at H
     replace H := itb_ H; obtain ⟨rfl, H⟩ | ⟨rfl, H⟩ := H
     ·have H' := Aside0.mk H
      clear H
      have hnb33 := NB624_601.out
      have hnc33 := NB601_624.out
      have hnb34 := NB624_0.out
      have hnc34 := NB0_624.out
      have hz35 := cz5_ BK624
      obtain ⟨Ao36, co36, eo36⟩ := Kd.R_slice HO_625000.out
      subst eo36
      try go_wp2_with (first | ((with_reducible refine gk_ 61 ?_); refine gl_ 40 Try.func61 #[.pointer (some ⟨g, 0, none⟩), .int .i64 (wrap64 ((y607.length : Int) - (x625000_1.length : Int)))] ?_; (with_reducible refine (spec_l1Below.calls g s0_0 x1001_1 x1002_1 (wrap64 ((y607.length : Int) - (x625000_1.length : Int))) t628 t629 t630 w0 _ ?side1 ?side2 A22.out).mono ?_); (case side1 => repeat (first | (with_reducible first | exact HI0.out | apply IsS111.alloc | apply IsS111.drewN | apply IsS111.drew | apply IsS111.set_1 | apply IsS111.set_2 | refine IsS111.far ?_ NB0_601.out _ | refine IsS111.far ?_ NB0_624.out _) | exact HI0.out)); (case side2 => repeat (first | (with_reducible first | exact HB.out | apply below_alloc | apply pw_below_drewN | apply below_drew1 | refine below_set ?_ (IsS111.ge HI0.out) | refine below_set ?_ GE601.out | refine below_set ?_ GE624.out) | exact HB.out)); rintro e w37 ⟨rfl, hi, hb, hk⟩; refine ⟨_, rfl, ?_⟩; replace HO_5 := Aside0.mk (Kd.R_mono (Kd.R_keep (IsS111.apart (show IsS111 w0 _ g s0_0 x1001_1 x1002_1 from by repeat (first | (with_reducible first | exact HI0.out | apply IsS111.alloc | apply IsS111.drewN | apply IsS111.drew | apply IsS111.set_1 | apply IsS111.set_2 | refine IsS111.far ?_ NB0_601.out _ | refine IsS111.far ?_ NB0_624.out _) | exact HI0.out)) (kr_ HO_5.out) (by decide)) hk (fun _ h => h.2)) (fun _ h => h.1)); replace HO_6 := Aside0.mk (Kd.R_mono (Kd.R_keep (IsS111.apart (show IsS111 w0 _ g s0_0 x1001_1 x1002_1 from by repeat (first | (with_reducible first | exact HI0.out | apply IsS111.alloc | apply IsS111.drewN | apply IsS111.drew | apply IsS111.set_1 | apply IsS111.set_2 | refine IsS111.far ?_ NB0_601.out _ | refine IsS111.far ?_ NB0_624.out _) | exact HI0.out)) (kr_ HO_6.out) (by decide)) hk (fun _ h => h.2)) (fun _ h => h.1)); replace HO_625000 := Aside0.mk (Kd.R_mono (Kd.R_keep (IsS111.apart (show IsS111 w0 _ g s0_0 x1001_1 x1002_1 from by repeat (first | (with_reducible first | exact HI0.out | apply IsS111.alloc | apply IsS111.drewN | apply IsS111.drew | apply IsS111.set_1 | apply IsS111.set_2 | refine IsS111.far ?_ NB0_601.out _ | refine IsS111.far ?_ NB0_624.out _) | exact HI0.out)) (kr_ HO_625000.out) (by decide)) hk (fun _ h => h.2)) (fun _ h => h.1)); replace HO_625003 := Aside0.mk (Kd.R_mono (Kd.R_keep (IsS111.apart (show IsS111 w0 _ g s0_0 x1001_1 x1002_1 from by repeat (first | (with_reducible first | exact HI0.out | apply IsS111.alloc | apply IsS111.drewN | apply IsS111.drew | apply IsS111.set_1 | apply IsS111.set_2 | refine IsS111.far ?_ NB0_601.out _ | refine IsS111.far ?_ NB0_624.out _) | exact HI0.out)) (kr_ HO_625003.out) (by decide)) hk (fun _ h => h.2)) (fun _ h => h.1)); replace BK601 := Aside0.mk (KeepBut.blk hk (g' := gb601) (o := .cells #[.slice none 0 0, .int .i64 0, .string (⟨#[]⟩ : ByteArray), .slice none 0 0, .int .i64 0] 37 (0, 0)) (kb_ BK601.out) NB601_0.out (by simp)); replace BK624 := Aside0.mk (KeepBut.blk hk (g' := gb624) (o := .cells #[.slice Ao36 x625000_1.length co36, .int .i64 x625001_1, .string x625002_1, u625003, .int .i64 x625004_1] 37 (0, 0)) (kb_ BK624.out) NB624_0.out (by simp)); replace HK := Aside0.mk (KeepBut.trans (by repeat (first | (with_reducible first | exact HK.out | apply KeepBut.set_ | apply keep_drewN | apply keep_drew | apply keep_alloc | refine keep_far ?_ GW601.out _ | refine keep_far ?_ GW624.out _) | exact HK.out)) hk (.inl rfl)); replace HB := Aside0.mk hb; replace HI0 := Aside0.mk hi; clear hb hk hi))
      replace HO_5 := Aside0.mk (Kd.R_drew HO_5.out)
      replace HO_6 := Aside0.mk (Kd.R_drew HO_6.out)
      replace HO_625000 := Aside0.mk (Kd.R_drew HO_625000.out)
      replace HO_625003 := Aside0.mk (Kd.R_drew HO_625003.out)
      replace BK601 := Aside0.mk (blk_drew BK601.out)
      replace BK624 := Aside0.mk (blk_drew BK624.out)
      replace HI0 := Aside0.mk (IsS111.drew HI0.out)
      replace HK := Aside0.mk (keep_drew HK.out)
      replace HB := Aside0.mk (below_drew1 HB.out)
      have q39 : ((ji23) : Int) ≤ ((y607.length : Int) : Int) := of_decide_eq_true as_
      obtain ⟨i039, hi039, _, hsz39, _⟩ := info_parts info9
      have hroom39 : y607.length ≤ co10 := (cl_ HO_5)
      have hC39 : Kd.C Kd.string _ Ao10 y607.length y607 := (Kd.R_reads' HO_5.out).2.2
      have hcut39 := cut_to (P := Try.prog) 24 9 .i64 Try.underlying24 hi039 Ao10 y607.length co10 (ji23) (of_decide_eq_true as_) q39 hroom39
      have hr39 := Kd.C_take (m := ((ji23) : Int).toNat) hC39 (by omega)
      have hy39 : y631.length = ((ji23) : Int).toNat := (by rw [Ny631.out, List.length_take]; omega)
      rw [← Ny631.out] at hr39
      rw [← hy39] at hcut39
      have HR634 := Aside0.mk hr39
      have HC634 := Aside0.mk (show y631.length ≤ co10 from by omega)
      clear hr39 hC39 hroom39 hi039 hsz39
      have KY39 := Aside0.mk hy39
      clear hy39
      have KL39 := Aside0.mk (show ((ji23) : Int).toNat ≤ y607.length from by omega)
      replace q39 := eq_true q39
      have q40 : ((ji23) : Int) ≤ ((y607.length : Int) : Int) := of_decide_eq_true as_
      obtain ⟨i040, hi040, _, hsz40, _⟩ := info_parts info9
      have hroom40 : y607.length ≤ co10 := (cl_ HO_5)
      have hC40 : Kd.C Kd.string _ Ao10 y607.length y607 := (Kd.R_reads' HO_5.out).2.2
      have ql40 : ((x625000_1.length : Int) : Int) ≤ ((ji23) : Int) := of_decide_eq_true as_
      have q040 : (0 : Int) ≤ ((x625000_1.length : Int) : Int) := of_decide_eq_true as_
      have hcut40 := cut_mid (P := Try.prog) 24 9 .i64 .i64 Try.underlying24 hi040 1 hsz40 Ao10 y607.length co10 (x625000_1.length : Int) (ji23) q040 ql40 q40 hroom40
      have hr40 := Kd.C_mid (lo := ((x625000_1.length : Int) : Int).toNat) (hi := ((ji23) : Int).toNat) (c := co10) hC40 (by omega) (by omega) hroom40
      obtain ⟨A40, hA40⟩ : ∃ A1, A1 = (if co10 = ((x625000_1.length : Int) : Int).toNat then Ao10 else (Ao10 : Option Addr).map (·.add (((x625000_1.length : Int) : Int).toNat * 1))) := ⟨_, rfl⟩
      obtain ⟨c40, hc40⟩ : ∃ c1, c1 = co10 - ((x625000_1.length : Int) : Int).toNat := ⟨_, rfl⟩
      have hy40 : y637.length = ((ji23) : Int).toNat - ((x625000_1.length : Int) : Int).toNat := (by rw [Ny637.out, List.length_drop, List.length_take] <;> omega)
      rw [show ((y607).take ((ji23) : Int).toNat).drop ((x625000_1.length : Int) : Int).toNat = y637 from Ny637.out.symm] at hr40
      replace hr40 : Kd.C Kd.string _ A40 y637.length y637 := (by rw [hA40]; exact hr40)
      rw [← hy40, ← hA40, ← hc40] at hcut40
      have HR640 := Aside0.mk hr40
      have HC640 := Aside0.mk (show y637.length ≤ c40 from by rw [hy40, hc40]; exact Nat.sub_le_sub_right (Nat.le_trans (by omega) hroom40) _)
      clear hr40 hC40 hroom40 hi040 hsz40 hc40
      have KY40 := Aside0.mk hy40
      have KA40 := Aside0.mk hA40
      clear hy40 hA40
      have KL40 := Aside0.mk (show ((ji23) : Int).toNat ≤ y607.length from by omega)
      have KM40 := Aside0.mk (show ((x625000_1.length : Int) : Int).toNat ≤ ((ji23) : Int).toNat from by omega)
      replace q40 := eq_true q40
      refine start_ (n := 15) (S := fun w' => w'.cell? ⟨gb624, 0, none⟩ = some (.slice Ao36 x625000_1.length co36) ∧ w'.cell? ⟨gb624, 1, none⟩ = some (.int .i64 x625001_1) ∧ w'.cell? ⟨gb624, 2, none⟩ = some (.string x625002_1) ∧ w'.cell? ⟨gb624, 3, none⟩ = some (u625003) ∧ w'.cell? ⟨gb624, 4, none⟩ = some (.int .i64 x625004_1)) (ds := [14]) (lz_ 15 0) (by kernel_rfl) rfl rfl ⟨bc0_ BK624.out, bc1_ BK624.out, bc2_ BK624.out, bc3_ BK624.out, bc4_ BK624.out⟩ (fun hHeld => ?_); refine with_tabW spec_l12Draw.tab10 spec_l12Draw.bits10 (fun HT_ HW_ => ?_)
      generalize w37.drew = w38 at HO_5 HO_6 HO_625000 HO_625003 BK601 BK624 HI0 HK HB HR634 HR640 hHeld ⊢
      refine pt_ 1 44 2 ?_
      refine pt_ 2 45 6 ?_
      refine pt_ 3 46 14 ?_
      refine pt_ 4 47 30 ?_
      refine pt_ 6 49 94 ?_
      refine pt_ 7 50 222 ?_
      refine pt_ 8 51 478 ?_
      refine pt_ 9 52 990 ?_
      refine tt_ 0 43 991 ?_
      refine one_ (i := 5) (N := some 48) (lz_ 15 1023) rfl rfl (one_of HT_.out (by kernel_rfl)) (by decide) (fun K hK => ?_)
      refine ge_ Try.func72 #[.slice Ao10 y631.length co10] ?_
      with_reducible refine (spec_HeadOf.calls k1 _ _ y631 t635 t636 _ ?side1 ?side2 A26.out).mono ?_
      (case side1 => exact cr_ (by repeat (first | (with_reducible exact HR634.out) | (with_reducible refine Kd.C_alloc ?_ _) | (with_reducible refine Kd.C_drewN ?_ _) | (with_reducible refine Kd.C_drew ?_) | exact HR634.out)))
      (case side2 => exact HC634.out)
      rintro e w41 ⟨rfl, hb⟩
      refine ⟨_, rfl, ?_⟩
      replace HO_5 := rb_ HO_5 hb
      replace HO_6 := rb_ HO_6 hb
      replace HO_625000 := rb_ HO_625000 hb
      replace HO_625003 := rb_ HO_625003 hb
      replace BK601 := kl_ BK601 hb
      replace BK624 := kl_ BK624 hb
      replace HR634 := Aside0.mk (Kd.C_below (by repeat (first | (with_reducible exact HR634.out) | (with_reducible refine Kd.C_alloc ?_ _) | (with_reducible refine Kd.C_drewN ?_ _) | (with_reducible refine Kd.C_drew ?_) | exact HR634.out)) hb)
      replace HR640 := Aside0.mk (Kd.C_below (by repeat (first | (with_reducible exact HR640.out) | (with_reducible refine Kd.C_alloc ?_ _) | (with_reducible refine Kd.C_drewN ?_ _) | (with_reducible refine Kd.C_drew ?_) | exact HR640.out)) hb)
      replace HK := Aside0.mk (KeepBut.trans (by repeat (first | (with_reducible first | exact HK.out | apply KeepBut.set_ | apply keep_drewN | apply keep_drew | apply keep_alloc | refine keep_far ?_ GW601.out _ | refine keep_far ?_ GW624.out _) | exact HK.out)) (KeepBut.of_below hb g none) (.inl rfl))
      replace HB := Aside0.mk (below_step (bs3_ HB (IsS111.ge HI0.out) GE601.out GE624.out) hb)
      replace HI0 := Aside0.mk (IsS111.below (by repeat (first | (with_reducible first | exact HI0.out | apply IsS111.alloc | apply IsS111.drewN | apply IsS111.drew | apply IsS111.set_1 | apply IsS111.set_2 | refine IsS111.far ?_ NB0_601.out _ | refine IsS111.far ?_ NB0_624.out _) | exact HI0.out)) hb)
      clear hb
      obtain ⟨Ao42, co42, eo42⟩ := Kd.R_slice HO_625003.out
      (first | subst eo42 | (injection eo42 with f1_ f2_ f3_; have f4_ := f1_.symm; have f5_ := f3_.symm; clear f1_ f2_ f3_; subst f4_; subst f5_))
      obtain ⟨Ao43, co43, eo43⟩ := Kd.R_slice HO_6.out
      (first | subst eo43 | (injection eo43 with f1_ f2_ f3_; have f4_ := f1_.symm; have f5_ := f3_.symm; clear f1_ f2_ f3_; subst f4_; subst f5_))
      refine hK.out _ _ ⟨bc0_ BK624.out, bc1_ BK624.out, bc2_ BK624.out, bc3_ BK624.out, bc4_ BK624.out⟩ (fun hHeld => ?_)
      clear hK K
      refine no_ 48 ?_
      refine one_ (i := 10) (N := some 53) (lz_ 15 2047) rfl rfl (one_of HT_.out (by kernel_rfl)) (by decide) (fun K hK => ?_)
      refine ge_ Try.func97 #[.agg #[.slice Ao36 x625000_1.length co36, .int .i64 x625001_1, .string x625002_1, .slice Ao42 x625003_1.length co42, .int .i64 x625004_1], .slice Ao43 t610.length co43, .agg #[.int .i64 t635, .string t636], .slice A40 y637.length c40] ?_
      with_reducible refine (spec_l12Commit.calls k1 _ _ x625000_1 x625001_1 x625002_1 _ _ x625003_1 x625004_1 _ _ t610 t635 t636 _ _ y637 t641 t644 t645 t646 t649 t650 _ ?side1 ?side2 ?side3 ?side4 ?side5 ?side6 ?side7 ?side8 A30.out).mono ?_
      (case side1 => exact ch_ HO_625000)
      (case side2 => exact (cl_ HO_625000))
      (case side3 => exact ch_ HO_625003)
      (case side4 => exact (cl_ HO_625003))
      (case side5 => exact ch_ HO_6)
      (case side6 => exact (cl_ HO_6))
      (case side7 => exact cr_ (by repeat (first | (with_reducible exact HR640.out) | (with_reducible refine Kd.C_alloc ?_ _) | (with_reducible refine Kd.C_drewN ?_ _) | (with_reducible refine Kd.C_drew ?_) | exact HR640.out)))
      (case side8 => exact HC640.out)
      rintro e w44 ⟨v642, v647, rfl, ho0, ho1, hb⟩
      refine ⟨_, rfl, ?_⟩
      replace HO_6 := rb_ HO_6 hb
      have HO643 := Aside0.mk (Kd.R_lower (Kd.R_new' (Kd.R_new' ho0 (lt_ HO_5)) (lt_ HO_625000)) (keep_size (w := w) (g := g) (row := none) (by repeat (first | (with_reducible first | exact HK.out | apply KeepBut.set_ | apply keep_drewN | apply keep_drew | apply keep_alloc | refine keep_far ?_ GW601.out _ | refine keep_far ?_ GW624.out _) | exact HK.out))))
      replace HO_5 := re_ HO_5 ho0 hb
      replace HO_625000 := re_ HO_625000 ho0 hb
      have HO648 := Aside0.mk (Kd.R_lower (Kd.R_new' ho1 (lt_ HO_625003)) (keep_size (w := w) (g := g) (row := none) (by repeat (first | (with_reducible first | exact HK.out | apply KeepBut.set_ | apply keep_drewN | apply keep_drew | apply keep_alloc | refine keep_far ?_ GW601.out _ | refine keep_far ?_ GW624.out _) | exact HK.out))))
      replace HO_625003 := re_ HO_625003 ho1 hb
      replace BK601 := kl_ BK601 hb
      replace BK624 := kl_ BK624 hb
      replace HR634 := Aside0.mk (Kd.C_below (by repeat (first | (with_reducible exact HR634.out) | (with_reducible refine Kd.C_alloc ?_ _) | (with_reducible refine Kd.C_drewN ?_ _) | (with_reducible refine Kd.C_drew ?_) | exact HR634.out)) hb)
      replace HR640 := Aside0.mk (Kd.C_below (by repeat (first | (with_reducible exact HR640.out) | (with_reducible refine Kd.C_alloc ?_ _) | (with_reducible refine Kd.C_drewN ?_ _) | (with_reducible refine Kd.C_drew ?_) | exact HR640.out)) hb)
      replace HK := Aside0.mk (KeepBut.trans (by repeat (first | (with_reducible first | exact HK.out | apply KeepBut.set_ | apply keep_drewN | apply keep_drew | apply keep_alloc | refine keep_far ?_ GW601.out _ | refine keep_far ?_ GW624.out _) | exact HK.out)) (KeepBut.of_below hb g none) (.inl rfl))
      replace HB := Aside0.mk (below_step (bs3_ HB (IsS111.ge HI0.out) GE601.out GE624.out) hb)
      replace HI0 := Aside0.mk (IsS111.below (by repeat (first | (with_reducible first | exact HI0.out | apply IsS111.alloc | apply IsS111.drewN | apply IsS111.drew | apply IsS111.set_1 | apply IsS111.set_2 | refine IsS111.far ?_ NB0_601.out _ | refine IsS111.far ?_ NB0_624.out _) | exact HI0.out)) hb)
      clear hb ho0 ho1
      obtain ⟨Ao45, co45, eo45⟩ := Kd.R_slice HO643.out
      (first | subst eo45 | (injection eo45 with f1_ f2_ f3_; have f4_ := f1_.symm; have f5_ := f3_.symm; clear f1_ f2_ f3_; subst f4_; subst f5_))
      obtain ⟨Ao49, co49, eo49⟩ := Kd.R_slice HO648.out
      (first | subst eo49 | (injection eo49 with f1_ f2_ f3_; have f4_ := f1_.symm; have f5_ := f3_.symm; clear f1_ f2_ f3_; subst f4_; subst f5_))
      refine hK.out _ _ ⟨bc0_ BK624.out, bc1_ BK624.out, bc2_ BK624.out, bc3_ BK624.out, bc4_ BK624.out⟩ (fun hHeld => ?_)
      clear hK K
      refine no_ 53 ?_
      refine pt_ 11 42 4095 ?_
      refine pt_ 12 54 8191 ?_
      refine pt_ 13 55 16383 ?_
      refine last_ (i := 14) (N := none) (lz_ 15 32767) rfl rfl (one_of HT_.out (by kernel_rfl)) (by decide) (fun K hK => ?_)
      have hs46 := bc0_ BK624.out
      have hfs46 := blk_frozen BK624.out 0
      have hns46_0 := NB601_624.out
      have hms46_0 := NB624_601.out
      have hs47 := bc1_ BK624.out
      have hfs47 := blk_frozen BK624.out 1
      have hns47_0 := NB601_624.out
      have hms47_0 := NB624_601.out
      have hs48 := bc2_ BK624.out
      have hfs48 := blk_frozen BK624.out 2
      have hns48_0 := NB601_624.out
      have hms48_0 := NB624_601.out
      have hs50 := bc3_ BK624.out
      have hfs50 := blk_frozen BK624.out 3
      have hns50_0 := NB601_624.out
      have hms50_0 := NB624_601.out
      have hs51 := bc4_ BK624.out
      have hfs51 := blk_frozen BK624.out 4
      have hns51_0 := NB601_624.out
      have hms51_0 := NB624_601.out
      refine skip_ (w1 := ?_) (by rfl) rfl ?_ ?_
      rotate_left
      ·go_simp
       rfl
      refine hK.out _ _ ?_
      clear hK K
      refine done_ (done_of HT_.out (by kernel_rfl)) ?_
      try go_wp2_with (first | ((with_reducible refine gk_ 75 ?_); refine gl_ 57 Try.func75 #[.pointer (some ⟨g, 0, none⟩), .int .i64 3] ?_; (with_reducible refine (spec_l1Once.calls g s0_0 t629 t630 3 true t652 t653 w0 _ ?side1 ?side2 A31.out).mono ?_); (case side1 => repeat (first | (with_reducible first | exact HI0.out | apply IsS111.alloc | apply IsS111.drewN | apply IsS111.drew | apply IsS111.set_1 | apply IsS111.set_2 | refine IsS111.far ?_ NB0_601.out _ | refine IsS111.far ?_ NB0_624.out _) | exact HI0.out)); (case side2 => repeat (first | (with_reducible first | exact HB.out | apply below_alloc | apply pw_below_drewN | apply below_drew1 | refine below_set ?_ (IsS111.ge HI0.out) | refine below_set ?_ GE601.out | refine below_set ?_ GE624.out) | exact HB.out)); rintro e w52 ⟨rfl, hi, hb, hk⟩; refine ⟨_, rfl, ?_⟩; replace HO_5 := Aside0.mk (Kd.R_mono (Kd.R_keep (IsS111.apart (show IsS111 w0 _ g s0_0 t629 t630 from by repeat (first | (with_reducible first | exact HI0.out | apply IsS111.alloc | apply IsS111.drewN | apply IsS111.drew | apply IsS111.set_1 | apply IsS111.set_2 | refine IsS111.far ?_ NB0_601.out _ | refine IsS111.far ?_ NB0_624.out _) | exact HI0.out)) (kf_ HO_5 BK624) (by decide)) hk (fun _ h => h.2)) (fun _ h => h.1)); replace HO_6 := Aside0.mk (Kd.R_mono (Kd.R_keep (IsS111.apart (show IsS111 w0 _ g s0_0 t629 t630 from by repeat (first | (with_reducible first | exact HI0.out | apply IsS111.alloc | apply IsS111.drewN | apply IsS111.drew | apply IsS111.set_1 | apply IsS111.set_2 | refine IsS111.far ?_ NB0_601.out _ | refine IsS111.far ?_ NB0_624.out _) | exact HI0.out)) (kf_ HO_6 BK624) (by decide)) hk (fun _ h => h.2)) (fun _ h => h.1)); replace HO_625000 := Aside0.mk (Kd.R_mono (Kd.R_keep (IsS111.apart (show IsS111 w0 _ g s0_0 t629 t630 from by repeat (first | (with_reducible first | exact HI0.out | apply IsS111.alloc | apply IsS111.drewN | apply IsS111.drew | apply IsS111.set_1 | apply IsS111.set_2 | refine IsS111.far ?_ NB0_601.out _ | refine IsS111.far ?_ NB0_624.out _) | exact HI0.out)) (kf_ HO_625000 BK624) (by decide)) hk (fun _ h => h.2)) (fun _ h => h.1)); replace HO_625003 := Aside0.mk (Kd.R_mono (Kd.R_keep (IsS111.apart (show IsS111 w0 _ g s0_0 t629 t630 from by repeat (first | (with_reducible first | exact HI0.out | apply IsS111.alloc | apply IsS111.drewN | apply IsS111.drew | apply IsS111.set_1 | apply IsS111.set_2 | refine IsS111.far ?_ NB0_601.out _ | refine IsS111.far ?_ NB0_624.out _) | exact HI0.out)) (kf_ HO_625003 BK624) (by decide)) hk (fun _ h => h.2)) (fun _ h => h.1)); replace BK601 := Aside0.mk (KeepBut.blk hk (g' := gb601) (o := .cells #[.slice none 0 0, .int .i64 0, .string (⟨#[]⟩ : ByteArray), .slice none 0 0, .int .i64 0] 37 (0, 0)) (kq_ BK601) NB601_0.out (by simp)); replace HO643 := Aside0.mk (Kd.R_mono (Kd.R_keep (IsS111.apart (show IsS111 w0 _ g s0_0 t629 t630 from by repeat (first | (with_reducible first | exact HI0.out | apply IsS111.alloc | apply IsS111.drewN | apply IsS111.drew | apply IsS111.set_1 | apply IsS111.set_2 | refine IsS111.far ?_ NB0_601.out _ | refine IsS111.far ?_ NB0_624.out _) | exact HI0.out)) (kf_ HO643 BK624) (by decide)) hk (fun _ h => h.2)) (fun _ h => h.1)); replace HO648 := Aside0.mk (Kd.R_mono (Kd.R_keep (IsS111.apart (show IsS111 w0 _ g s0_0 t629 t630 from by repeat (first | (with_reducible first | exact HI0.out | apply IsS111.alloc | apply IsS111.drewN | apply IsS111.drew | apply IsS111.set_1 | apply IsS111.set_2 | refine IsS111.far ?_ NB0_601.out _ | refine IsS111.far ?_ NB0_624.out _) | exact HI0.out)) (kf_ HO648 BK624) (by decide)) hk (fun _ h => h.2)) (fun _ h => h.1)); replace BK624 := Aside0.mk (KeepBut.blk hk (g' := gb624) (o := .cells #[.slice Ao45 t641.length co45, .int .i64 t644, .string t645, .slice Ao49 t646.length co49, .int .i64 t649] 37 (0, 0)) (kq_ BK624) NB624_0.out (by simp)); replace HK := Aside0.mk (KeepBut.trans (by repeat (first | (with_reducible first | exact HK.out | apply KeepBut.set_ | apply keep_drewN | apply keep_drew | apply keep_alloc | refine keep_far ?_ GW601.out _ | refine keep_far ?_ GW624.out _) | exact HK.out)) hk (.inl rfl)); replace HB := Aside0.mk hb; replace HI0 := Aside0.mk hi; clear hb hk hi; have hz53 := cz5_ BK624))
      go_roundg k1
      case measure => have := HK1.out; omega
      case rel => exact ⟨(wrap64 (x8_1 - 1)), (t652), (t653), (t641), (t644), (t645), (t646), ((t646.length : Int)), (.slice Ao45 t641.length co45), (.slice Ao49 t646.length co49), e1_, H', ⟨by have := HK1.out; omega⟩, ⟨by (with_reducible repeat (first | apply Kd.R_alloc | apply Kd.R_drewN | apply Kd.R_drew)); exact Kd.R_mono (Kd.R_far (p := ⟨gb624, 4, none⟩) (Kd.R_types HO_5.out BK624.out (by decide)) (fun _ hk => hk.2) (.int .i64 (t646.length : Int))) (fun _ hk => hk.1.2)⟩, ⟨by (with_reducible repeat (first | apply Kd.R_alloc | apply Kd.R_drewN | apply Kd.R_drew)); exact Kd.R_mono (Kd.R_far (p := ⟨gb624, 4, none⟩) (Kd.R_types HO_6.out BK624.out (by decide)) (fun _ hk => hk.2) (.int .i64 (t646.length : Int))) (fun _ hk => trivial)⟩, ⟨by (with_reducible repeat (first | apply Kd.R_alloc | apply Kd.R_drewN | apply Kd.R_drew)); exact Kd.R_mono (Kd.R_far (p := ⟨gb624, 4, none⟩) (Kd.R_types HO643.out BK624.out (by decide)) (fun _ hk => hk.2) (.int .i64 (t646.length : Int))) (fun _ hk => hk.1.1.2)⟩, ⟨by (with_reducible repeat (first | apply Kd.R_alloc | apply Kd.R_drewN | apply Kd.R_drew)); exact Kd.R_mono (Kd.R_far (p := ⟨gb624, 4, none⟩) (Kd.R_types HO648.out BK624.out (by decide)) (fun _ hk => hk.2) (.int .i64 (t646.length : Int))) (fun _ hk => trivial)⟩, ⟨kq_ BK601⟩, ⟨kq_ BK624⟩, ⟨by repeat (first | (with_reducible first | exact HI0.out | apply IsS111.alloc | apply IsS111.drewN | apply IsS111.drew | apply IsS111.set_1 | apply IsS111.set_2 | refine IsS111.far ?_ NB0_601.out _ | refine IsS111.far ?_ NB0_624.out _) | exact HI0.out)⟩, ⟨by repeat (first | (with_reducible first | exact HK.out | apply KeepBut.set_ | apply keep_drewN | apply keep_drew | apply keep_alloc | refine keep_far ?_ GW601.out _ | refine keep_far ?_ GW624.out _) | exact HK.out)⟩, ⟨by repeat (first | (with_reducible first | exact HB.out | apply below_alloc | apply pw_below_drewN | apply below_drew1 | refine below_set ?_ (IsS111.ge HI0.out) | refine below_set ?_ GE601.out | refine below_set ?_ GE624.out) | exact HB.out)⟩⟩
     ·have H' := Aside0.mk H
      clear H
      have hnb54 := NB624_601.out
      have hnc54 := NB601_624.out
      have hnb55 := NB624_0.out
      have hnc55 := NB0_624.out
      have hz56 := cz5_ BK624
      obtain ⟨Ao57, co57, eo57⟩ := Kd.R_slice HO_625000.out
      subst eo57
      try go_wp2_with (first | ((with_reducible refine gk_ 61 ?_); refine gl_ 40 Try.func61 #[.pointer (some ⟨g, 0, none⟩), .int .i64 (wrap64 ((y607.length : Int) - (x625000_1.length : Int)))] ?_; (with_reducible refine (spec_l1Below.calls g s0_0 x1001_1 x1002_1 (wrap64 ((y607.length : Int) - (x625000_1.length : Int))) t628 t629 t630 w0 _ ?side1 ?side2 A22.out).mono ?_); (case side1 => repeat (first | (with_reducible first | exact HI0.out | apply IsS111.alloc | apply IsS111.drewN | apply IsS111.drew | apply IsS111.set_1 | apply IsS111.set_2 | refine IsS111.far ?_ NB0_601.out _ | refine IsS111.far ?_ NB0_624.out _) | exact HI0.out)); (case side2 => repeat (first | (with_reducible first | exact HB.out | apply below_alloc | apply pw_below_drewN | apply below_drew1 | refine below_set ?_ (IsS111.ge HI0.out) | refine below_set ?_ GE601.out | refine below_set ?_ GE624.out) | exact HB.out)); rintro e w58 ⟨rfl, hi, hb, hk⟩; refine ⟨_, rfl, ?_⟩; replace HO_5 := Aside0.mk (Kd.R_mono (Kd.R_keep (IsS111.apart (show IsS111 w0 _ g s0_0 x1001_1 x1002_1 from by repeat (first | (with_reducible first | exact HI0.out | apply IsS111.alloc | apply IsS111.drewN | apply IsS111.drew | apply IsS111.set_1 | apply IsS111.set_2 | refine IsS111.far ?_ NB0_601.out _ | refine IsS111.far ?_ NB0_624.out _) | exact HI0.out)) (kr_ HO_5.out) (by decide)) hk (fun _ h => h.2)) (fun _ h => h.1)); replace HO_6 := Aside0.mk (Kd.R_mono (Kd.R_keep (IsS111.apart (show IsS111 w0 _ g s0_0 x1001_1 x1002_1 from by repeat (first | (with_reducible first | exact HI0.out | apply IsS111.alloc | apply IsS111.drewN | apply IsS111.drew | apply IsS111.set_1 | apply IsS111.set_2 | refine IsS111.far ?_ NB0_601.out _ | refine IsS111.far ?_ NB0_624.out _) | exact HI0.out)) (kr_ HO_6.out) (by decide)) hk (fun _ h => h.2)) (fun _ h => h.1)); replace HO_625000 := Aside0.mk (Kd.R_mono (Kd.R_keep (IsS111.apart (show IsS111 w0 _ g s0_0 x1001_1 x1002_1 from by repeat (first | (with_reducible first | exact HI0.out | apply IsS111.alloc | apply IsS111.drewN | apply IsS111.drew | apply IsS111.set_1 | apply IsS111.set_2 | refine IsS111.far ?_ NB0_601.out _ | refine IsS111.far ?_ NB0_624.out _) | exact HI0.out)) (kr_ HO_625000.out) (by decide)) hk (fun _ h => h.2)) (fun _ h => h.1)); replace HO_625003 := Aside0.mk (Kd.R_mono (Kd.R_keep (IsS111.apart (show IsS111 w0 _ g s0_0 x1001_1 x1002_1 from by repeat (first | (with_reducible first | exact HI0.out | apply IsS111.alloc | apply IsS111.drewN | apply IsS111.drew | apply IsS111.set_1 | apply IsS111.set_2 | refine IsS111.far ?_ NB0_601.out _ | refine IsS111.far ?_ NB0_624.out _) | exact HI0.out)) (kr_ HO_625003.out) (by decide)) hk (fun _ h => h.2)) (fun _ h => h.1)); replace BK601 := Aside0.mk (KeepBut.blk hk (g' := gb601) (o := .cells #[.slice none 0 0, .int .i64 0, .string (⟨#[]⟩ : ByteArray), .slice none 0 0, .int .i64 0] 37 (0, 0)) (kb_ BK601.out) NB601_0.out (by simp)); replace BK624 := Aside0.mk (KeepBut.blk hk (g' := gb624) (o := .cells #[.slice Ao57 x625000_1.length co57, .int .i64 x625001_1, .string x625002_1, u625003, .int .i64 x625004_1] 37 (0, 0)) (kb_ BK624.out) NB624_0.out (by simp)); replace HK := Aside0.mk (KeepBut.trans (by repeat (first | (with_reducible first | exact HK.out | apply KeepBut.set_ | apply keep_drewN | apply keep_drew | apply keep_alloc | refine keep_far ?_ GW601.out _ | refine keep_far ?_ GW624.out _) | exact HK.out)) hk (.inl rfl)); replace HB := Aside0.mk hb; replace HI0 := Aside0.mk hi; clear hb hk hi))
      replace HO_5 := Aside0.mk (Kd.R_drew HO_5.out)
      replace HO_6 := Aside0.mk (Kd.R_drew HO_6.out)
      replace HO_625000 := Aside0.mk (Kd.R_drew HO_625000.out)
      replace HO_625003 := Aside0.mk (Kd.R_drew HO_625003.out)
      replace BK601 := Aside0.mk (blk_drew BK601.out)
      replace BK624 := Aside0.mk (blk_drew BK624.out)
      replace HI0 := Aside0.mk (IsS111.drew HI0.out)
      replace HK := Aside0.mk (keep_drew HK.out)
      replace HB := Aside0.mk (below_drew1 HB.out)
      have q60 : ((ji23) : Int) ≤ ((y607.length : Int) : Int) := of_decide_eq_true as_
      obtain ⟨i060, hi060, _, hsz60, _⟩ := info_parts info9
      have hroom60 : y607.length ≤ co10 := (cl_ HO_5)
      have hC60 : Kd.C Kd.string _ Ao10 y607.length y607 := (Kd.R_reads' HO_5.out).2.2
      have hcut60 := cut_to (P := Try.prog) 24 9 .i64 Try.underlying24 hi060 Ao10 y607.length co10 (ji23) (of_decide_eq_true as_) q60 hroom60
      have hr60 := Kd.C_take (m := ((ji23) : Int).toNat) hC60 (by omega)
      have hy60 : y631.length = ((ji23) : Int).toNat := (by rw [Ny631.out, List.length_take]; omega)
      rw [← Ny631.out] at hr60
      rw [← hy60] at hcut60
      have HR634 := Aside0.mk hr60
      have HC634 := Aside0.mk (show y631.length ≤ co10 from by omega)
      clear hr60 hC60 hroom60 hi060 hsz60
      have KY60 := Aside0.mk hy60
      clear hy60
      have KL60 := Aside0.mk (show ((ji23) : Int).toNat ≤ y607.length from by omega)
      replace q60 := eq_true q60
      have q61 : ((ji23) : Int) ≤ ((y607.length : Int) : Int) := of_decide_eq_true as_
      obtain ⟨i061, hi061, _, hsz61, _⟩ := info_parts info9
      have hroom61 : y607.length ≤ co10 := (cl_ HO_5)
      have hC61 : Kd.C Kd.string _ Ao10 y607.length y607 := (Kd.R_reads' HO_5.out).2.2
      have ql61 : ((x625000_1.length : Int) : Int) ≤ ((ji23) : Int) := of_decide_eq_true as_
      have q061 : (0 : Int) ≤ ((x625000_1.length : Int) : Int) := of_decide_eq_true as_
      have hcut61 := cut_mid (P := Try.prog) 24 9 .i64 .i64 Try.underlying24 hi061 1 hsz61 Ao10 y607.length co10 (x625000_1.length : Int) (ji23) q061 ql61 q61 hroom61
      have hr61 := Kd.C_mid (lo := ((x625000_1.length : Int) : Int).toNat) (hi := ((ji23) : Int).toNat) (c := co10) hC61 (by omega) (by omega) hroom61
      obtain ⟨A61, hA61⟩ : ∃ A1, A1 = (if co10 = ((x625000_1.length : Int) : Int).toNat then Ao10 else (Ao10 : Option Addr).map (·.add (((x625000_1.length : Int) : Int).toNat * 1))) := ⟨_, rfl⟩
      obtain ⟨c61, hc61⟩ : ∃ c1, c1 = co10 - ((x625000_1.length : Int) : Int).toNat := ⟨_, rfl⟩
      have hy61 : y637.length = ((ji23) : Int).toNat - ((x625000_1.length : Int) : Int).toNat := (by rw [Ny637.out, List.length_drop, List.length_take] <;> omega)
      rw [show ((y607).take ((ji23) : Int).toNat).drop ((x625000_1.length : Int) : Int).toNat = y637 from Ny637.out.symm] at hr61
      replace hr61 : Kd.C Kd.string _ A61 y637.length y637 := (by rw [hA61]; exact hr61)
      rw [← hy61, ← hA61, ← hc61] at hcut61
      have HR640 := Aside0.mk hr61
      have HC640 := Aside0.mk (show y637.length ≤ c61 from by rw [hy61, hc61]; exact Nat.sub_le_sub_right (Nat.le_trans (by omega) hroom61) _)
      clear hr61 hC61 hroom61 hi061 hsz61 hc61
      have KY61 := Aside0.mk hy61
      have KA61 := Aside0.mk hA61
      clear hy61 hA61
      have KL61 := Aside0.mk (show ((ji23) : Int).toNat ≤ y607.length from by omega)
      have KM61 := Aside0.mk (show ((x625000_1.length : Int) : Int).toNat ≤ ((ji23) : Int).toNat from by omega)
      replace q61 := eq_true q61
      refine start_ (n := 15) (S := fun w' => w'.cell? ⟨gb624, 0, none⟩ = some (.slice Ao57 x625000_1.length co57) ∧ w'.cell? ⟨gb624, 1, none⟩ = some (.int .i64 x625001_1) ∧ w'.cell? ⟨gb624, 2, none⟩ = some (.string x625002_1) ∧ w'.cell? ⟨gb624, 3, none⟩ = some (u625003) ∧ w'.cell? ⟨gb624, 4, none⟩ = some (.int .i64 x625004_1)) (ds := [14]) (lz_ 15 0) (by kernel_rfl) rfl rfl ⟨bc0_ BK624.out, bc1_ BK624.out, bc2_ BK624.out, bc3_ BK624.out, bc4_ BK624.out⟩ (fun hHeld => ?_); refine with_tabW spec_l12Draw.tab10 spec_l12Draw.bits10 (fun HT_ HW_ => ?_)
      generalize w58.drew = w59 at HO_5 HO_6 HO_625000 HO_625003 BK601 BK624 HI0 HK HB HR634 HR640 hHeld ⊢
      refine pt_ 1 44 2 ?_
      refine pt_ 2 45 6 ?_
      refine pt_ 3 46 14 ?_
      refine pt_ 4 47 30 ?_
      refine pt_ 6 49 94 ?_
      refine pt_ 7 50 222 ?_
      refine pt_ 8 51 478 ?_
      refine pt_ 9 52 990 ?_
      refine tt_ 0 43 991 ?_
      refine one_ (i := 5) (N := some 48) (lz_ 15 1023) rfl rfl (one_of HT_.out (by kernel_rfl)) (by decide) (fun K hK => ?_)
      refine ge_ Try.func72 #[.slice Ao10 y631.length co10] ?_
      with_reducible refine (spec_HeadOf.calls k1 _ _ y631 t635 t636 _ ?side1 ?side2 A26.out).mono ?_
      (case side1 => exact cr_ (by repeat (first | (with_reducible exact HR634.out) | (with_reducible refine Kd.C_alloc ?_ _) | (with_reducible refine Kd.C_drewN ?_ _) | (with_reducible refine Kd.C_drew ?_) | exact HR634.out)))
      (case side2 => exact HC634.out)
      rintro e w62 ⟨rfl, hb⟩
      refine ⟨_, rfl, ?_⟩
      replace HO_5 := rb_ HO_5 hb
      replace HO_6 := rb_ HO_6 hb
      replace HO_625000 := rb_ HO_625000 hb
      replace HO_625003 := rb_ HO_625003 hb
      replace BK601 := kl_ BK601 hb
      replace BK624 := kl_ BK624 hb
      replace HR634 := Aside0.mk (Kd.C_below (by repeat (first | (with_reducible exact HR634.out) | (with_reducible refine Kd.C_alloc ?_ _) | (with_reducible refine Kd.C_drewN ?_ _) | (with_reducible refine Kd.C_drew ?_) | exact HR634.out)) hb)
      replace HR640 := Aside0.mk (Kd.C_below (by repeat (first | (with_reducible exact HR640.out) | (with_reducible refine Kd.C_alloc ?_ _) | (with_reducible refine Kd.C_drewN ?_ _) | (with_reducible refine Kd.C_drew ?_) | exact HR640.out)) hb)
      replace HK := Aside0.mk (KeepBut.trans (by repeat (first | (with_reducible first | exact HK.out | apply KeepBut.set_ | apply keep_drewN | apply keep_drew | apply keep_alloc | refine keep_far ?_ GW601.out _ | refine keep_far ?_ GW624.out _) | exact HK.out)) (KeepBut.of_below hb g none) (.inl rfl))
      replace HB := Aside0.mk (below_step (bs3_ HB (IsS111.ge HI0.out) GE601.out GE624.out) hb)
      replace HI0 := Aside0.mk (IsS111.below (by repeat (first | (with_reducible first | exact HI0.out | apply IsS111.alloc | apply IsS111.drewN | apply IsS111.drew | apply IsS111.set_1 | apply IsS111.set_2 | refine IsS111.far ?_ NB0_601.out _ | refine IsS111.far ?_ NB0_624.out _) | exact HI0.out)) hb)
      clear hb
      obtain ⟨Ao63, co63, eo63⟩ := Kd.R_slice HO_625003.out
      (first | subst eo63 | (injection eo63 with f1_ f2_ f3_; have f4_ := f1_.symm; have f5_ := f3_.symm; clear f1_ f2_ f3_; subst f4_; subst f5_))
      obtain ⟨Ao64, co64, eo64⟩ := Kd.R_slice HO_6.out
      (first | subst eo64 | (injection eo64 with f1_ f2_ f3_; have f4_ := f1_.symm; have f5_ := f3_.symm; clear f1_ f2_ f3_; subst f4_; subst f5_))
      refine hK.out _ _ ⟨bc0_ BK624.out, bc1_ BK624.out, bc2_ BK624.out, bc3_ BK624.out, bc4_ BK624.out⟩ (fun hHeld => ?_)
      clear hK K
      refine no_ 48 ?_
      refine one_ (i := 10) (N := some 53) (lz_ 15 2047) rfl rfl (one_of HT_.out (by kernel_rfl)) (by decide) (fun K hK => ?_)
      refine ge_ Try.func97 #[.agg #[.slice Ao57 x625000_1.length co57, .int .i64 x625001_1, .string x625002_1, .slice Ao63 x625003_1.length co63, .int .i64 x625004_1], .slice Ao64 t610.length co64, .agg #[.int .i64 t635, .string t636], .slice A61 y637.length c61] ?_
      with_reducible refine (spec_l12Commit.calls k1 _ _ x625000_1 x625001_1 x625002_1 _ _ x625003_1 x625004_1 _ _ t610 t635 t636 _ _ y637 t641 t644 t645 t646 t649 t650 _ ?side1 ?side2 ?side3 ?side4 ?side5 ?side6 ?side7 ?side8 A30.out).mono ?_
      (case side1 => exact ch_ HO_625000)
      (case side2 => exact (cl_ HO_625000))
      (case side3 => exact ch_ HO_625003)
      (case side4 => exact (cl_ HO_625003))
      (case side5 => exact ch_ HO_6)
      (case side6 => exact (cl_ HO_6))
      (case side7 => exact cr_ (by repeat (first | (with_reducible exact HR640.out) | (with_reducible refine Kd.C_alloc ?_ _) | (with_reducible refine Kd.C_drewN ?_ _) | (with_reducible refine Kd.C_drew ?_) | exact HR640.out)))
      (case side8 => exact HC640.out)
      rintro e w65 ⟨v642, v647, rfl, ho0, ho1, hb⟩
      refine ⟨_, rfl, ?_⟩
      replace HO_6 := rb_ HO_6 hb
      have HO643 := Aside0.mk (Kd.R_lower (Kd.R_new' (Kd.R_new' ho0 (lt_ HO_5)) (lt_ HO_625000)) (keep_size (w := w) (g := g) (row := none) (by repeat (first | (with_reducible first | exact HK.out | apply KeepBut.set_ | apply keep_drewN | apply keep_drew | apply keep_alloc | refine keep_far ?_ GW601.out _ | refine keep_far ?_ GW624.out _) | exact HK.out))))
      replace HO_5 := re_ HO_5 ho0 hb
      replace HO_625000 := re_ HO_625000 ho0 hb
      have HO648 := Aside0.mk (Kd.R_lower (Kd.R_new' ho1 (lt_ HO_625003)) (keep_size (w := w) (g := g) (row := none) (by repeat (first | (with_reducible first | exact HK.out | apply KeepBut.set_ | apply keep_drewN | apply keep_drew | apply keep_alloc | refine keep_far ?_ GW601.out _ | refine keep_far ?_ GW624.out _) | exact HK.out))))
      replace HO_625003 := re_ HO_625003 ho1 hb
      replace BK601 := kl_ BK601 hb
      replace BK624 := kl_ BK624 hb
      replace HR634 := Aside0.mk (Kd.C_below (by repeat (first | (with_reducible exact HR634.out) | (with_reducible refine Kd.C_alloc ?_ _) | (with_reducible refine Kd.C_drewN ?_ _) | (with_reducible refine Kd.C_drew ?_) | exact HR634.out)) hb)
      replace HR640 := Aside0.mk (Kd.C_below (by repeat (first | (with_reducible exact HR640.out) | (with_reducible refine Kd.C_alloc ?_ _) | (with_reducible refine Kd.C_drewN ?_ _) | (with_reducible refine Kd.C_drew ?_) | exact HR640.out)) hb)
      replace HK := Aside0.mk (KeepBut.trans (by repeat (first | (with_reducible first | exact HK.out | apply KeepBut.set_ | apply keep_drewN | apply keep_drew | apply keep_alloc | refine keep_far ?_ GW601.out _ | refine keep_far ?_ GW624.out _) | exact HK.out)) (KeepBut.of_below hb g none) (.inl rfl))
      replace HB := Aside0.mk (below_step (bs3_ HB (IsS111.ge HI0.out) GE601.out GE624.out) hb)
      replace HI0 := Aside0.mk (IsS111.below (by repeat (first | (with_reducible first | exact HI0.out | apply IsS111.alloc | apply IsS111.drewN | apply IsS111.drew | apply IsS111.set_1 | apply IsS111.set_2 | refine IsS111.far ?_ NB0_601.out _ | refine IsS111.far ?_ NB0_624.out _) | exact HI0.out)) hb)
      clear hb ho0 ho1
      obtain ⟨Ao66, co66, eo66⟩ := Kd.R_slice HO643.out
      (first | subst eo66 | (injection eo66 with f1_ f2_ f3_; have f4_ := f1_.symm; have f5_ := f3_.symm; clear f1_ f2_ f3_; subst f4_; subst f5_))
      obtain ⟨Ao70, co70, eo70⟩ := Kd.R_slice HO648.out
      (first | subst eo70 | (injection eo70 with f1_ f2_ f3_; have f4_ := f1_.symm; have f5_ := f3_.symm; clear f1_ f2_ f3_; subst f4_; subst f5_))
      refine hK.out _ _ ⟨bc0_ BK624.out, bc1_ BK624.out, bc2_ BK624.out, bc3_ BK624.out, bc4_ BK624.out⟩ (fun hHeld => ?_)
      clear hK K
      refine no_ 53 ?_
      refine pt_ 11 42 4095 ?_
      refine pt_ 12 54 8191 ?_
      refine pt_ 13 55 16383 ?_
      refine last_ (i := 14) (N := none) (lz_ 15 32767) rfl rfl (one_of HT_.out (by kernel_rfl)) (by decide) (fun K hK => ?_)
      have hs67 := bc0_ BK624.out
      have hfs67 := blk_frozen BK624.out 0
      have hns67_0 := NB601_624.out
      have hms67_0 := NB624_601.out
      have hs68 := bc1_ BK624.out
      have hfs68 := blk_frozen BK624.out 1
      have hns68_0 := NB601_624.out
      have hms68_0 := NB624_601.out
      have hs69 := bc2_ BK624.out
      have hfs69 := blk_frozen BK624.out 2
      have hns69_0 := NB601_624.out
      have hms69_0 := NB624_601.out
      have hs71 := bc3_ BK624.out
      have hfs71 := blk_frozen BK624.out 3
      have hns71_0 := NB601_624.out
      have hms71_0 := NB624_601.out
      have hs72 := bc4_ BK624.out
      have hfs72 := blk_frozen BK624.out 4
      have hns72_0 := NB601_624.out
      have hms72_0 := NB624_601.out
      refine skip_ (w1 := ?_) (by rfl) rfl ?_ ?_
      rotate_left
      ·go_simp
       rfl
      refine hK.out _ _ ?_
      clear hK K
      refine done_ (done_of HT_.out (by kernel_rfl)) ?_
      try go_wp2_with (first | ((with_reducible refine gk_ 75 ?_); refine gl_ 57 Try.func75 #[.pointer (some ⟨g, 0, none⟩), .int .i64 3] ?_; (with_reducible refine (spec_l1Once.calls g s0_0 t629 t630 3 false t652 t653 w0 _ ?side1 ?side2 A31.out).mono ?_); (case side1 => repeat (first | (with_reducible first | exact HI0.out | apply IsS111.alloc | apply IsS111.drewN | apply IsS111.drew | apply IsS111.set_1 | apply IsS111.set_2 | refine IsS111.far ?_ NB0_601.out _ | refine IsS111.far ?_ NB0_624.out _) | exact HI0.out)); (case side2 => repeat (first | (with_reducible first | exact HB.out | apply below_alloc | apply pw_below_drewN | apply below_drew1 | refine below_set ?_ (IsS111.ge HI0.out) | refine below_set ?_ GE601.out | refine below_set ?_ GE624.out) | exact HB.out)); rintro e w73 ⟨rfl, hi, hb, hk⟩; refine ⟨_, rfl, ?_⟩; replace HO_5 := Aside0.mk (Kd.R_mono (Kd.R_keep (IsS111.apart (show IsS111 w0 _ g s0_0 t629 t630 from by repeat (first | (with_reducible first | exact HI0.out | apply IsS111.alloc | apply IsS111.drewN | apply IsS111.drew | apply IsS111.set_1 | apply IsS111.set_2 | refine IsS111.far ?_ NB0_601.out _ | refine IsS111.far ?_ NB0_624.out _) | exact HI0.out)) (kf_ HO_5 BK624) (by decide)) hk (fun _ h => h.2)) (fun _ h => h.1)); replace HO_6 := Aside0.mk (Kd.R_mono (Kd.R_keep (IsS111.apart (show IsS111 w0 _ g s0_0 t629 t630 from by repeat (first | (with_reducible first | exact HI0.out | apply IsS111.alloc | apply IsS111.drewN | apply IsS111.drew | apply IsS111.set_1 | apply IsS111.set_2 | refine IsS111.far ?_ NB0_601.out _ | refine IsS111.far ?_ NB0_624.out _) | exact HI0.out)) (kf_ HO_6 BK624) (by decide)) hk (fun _ h => h.2)) (fun _ h => h.1)); replace HO_625000 := Aside0.mk (Kd.R_mono (Kd.R_keep (IsS111.apart (show IsS111 w0 _ g s0_0 t629 t630 from by repeat (first | (with_reducible first | exact HI0.out | apply IsS111.alloc | apply IsS111.drewN | apply IsS111.drew | apply IsS111.set_1 | apply IsS111.set_2 | refine IsS111.far ?_ NB0_601.out _ | refine IsS111.far ?_ NB0_624.out _) | exact HI0.out)) (kf_ HO_625000 BK624) (by decide)) hk (fun _ h => h.2)) (fun _ h => h.1)); replace HO_625003 := Aside0.mk (Kd.R_mono (Kd.R_keep (IsS111.apart (show IsS111 w0 _ g s0_0 t629 t630 from by repeat (first | (with_reducible first | exact HI0.out | apply IsS111.alloc | apply IsS111.drewN | apply IsS111.drew | apply IsS111.set_1 | apply IsS111.set_2 | refine IsS111.far ?_ NB0_601.out _ | refine IsS111.far ?_ NB0_624.out _) | exact HI0.out)) (kf_ HO_625003 BK624) (by decide)) hk (fun _ h => h.2)) (fun _ h => h.1)); replace BK601 := Aside0.mk (KeepBut.blk hk (g' := gb601) (o := .cells #[.slice none 0 0, .int .i64 0, .string (⟨#[]⟩ : ByteArray), .slice none 0 0, .int .i64 0] 37 (0, 0)) (kq_ BK601) NB601_0.out (by simp)); replace HO643 := Aside0.mk (Kd.R_mono (Kd.R_keep (IsS111.apart (show IsS111 w0 _ g s0_0 t629 t630 from by repeat (first | (with_reducible first | exact HI0.out | apply IsS111.alloc | apply IsS111.drewN | apply IsS111.drew | apply IsS111.set_1 | apply IsS111.set_2 | refine IsS111.far ?_ NB0_601.out _ | refine IsS111.far ?_ NB0_624.out _) | exact HI0.out)) (kf_ HO643 BK624) (by decide)) hk (fun _ h => h.2)) (fun _ h => h.1)); replace HO648 := Aside0.mk (Kd.R_mono (Kd.R_keep (IsS111.apart (show IsS111 w0 _ g s0_0 t629 t630 from by repeat (first | (with_reducible first | exact HI0.out | apply IsS111.alloc | apply IsS111.drewN | apply IsS111.drew | apply IsS111.set_1 | apply IsS111.set_2 | refine IsS111.far ?_ NB0_601.out _ | refine IsS111.far ?_ NB0_624.out _) | exact HI0.out)) (kf_ HO648 BK624) (by decide)) hk (fun _ h => h.2)) (fun _ h => h.1)); replace BK624 := Aside0.mk (KeepBut.blk hk (g' := gb624) (o := .cells #[.slice Ao66 t641.length co66, .int .i64 t644, .string t645, .slice Ao70 t646.length co70, .int .i64 t649] 37 (0, 0)) (kq_ BK624) NB624_0.out (by simp)); replace HK := Aside0.mk (KeepBut.trans (by repeat (first | (with_reducible first | exact HK.out | apply KeepBut.set_ | apply keep_drewN | apply keep_drew | apply keep_alloc | refine keep_far ?_ GW601.out _ | refine keep_far ?_ GW624.out _) | exact HK.out)) hk (.inl rfl)); replace HB := Aside0.mk hb; replace HI0 := Aside0.mk hi; clear hb hk hi))
      go_roundg k1
      case measure => have := HK1.out; omega
      case rel => exact ⟨(wrap64 (x8_1 - 1)), (t652), (t653), (t641), (t644), (t645), (t646), (t649), (.slice Ao66 t641.length co66), (.slice Ao70 t646.length co70), e1_, H', ⟨by have := HK1.out; omega⟩, ⟨by (with_reducible repeat (first | apply Kd.R_alloc | apply Kd.R_drewN | apply Kd.R_drew)); exact Kd.R_mono HO_5.out (fun _ hk => hk.2)⟩, ⟨kr_ HO_6.out⟩, ⟨by (with_reducible repeat (first | apply Kd.R_alloc | apply Kd.R_drewN | apply Kd.R_drew)); exact Kd.R_mono HO643.out (fun _ hk => hk.1.2)⟩, ⟨by (with_reducible repeat (first | apply Kd.R_alloc | apply Kd.R_drewN | apply Kd.R_drew)); exact Kd.R_mono HO648.out (fun _ hk => trivial)⟩, ⟨kb_ BK601.out⟩, ⟨kb_ BK624.out⟩, ⟨by repeat (first | (with_reducible first | exact HI0.out | apply IsS111.alloc | apply IsS111.drewN | apply IsS111.drew | apply IsS111.set_1 | apply IsS111.set_2 | refine IsS111.far ?_ NB0_601.out _ | refine IsS111.far ?_ NB0_624.out _) | exact HI0.out)⟩, ⟨by repeat (first | (with_reducible first | exact HK.out | apply KeepBut.set_ | apply keep_drewN | apply keep_drew | apply keep_alloc | refine keep_far ?_ GW601.out _ | refine keep_far ?_ GW624.out _) | exact HK.out)⟩, ⟨by repeat (first | (with_reducible first | exact HB.out | apply below_alloc | apply pw_below_drewN | apply below_drew1 | refine below_set ?_ (IsS111.ge HI0.out) | refine below_set ?_ GE601.out | refine below_set ?_ GE624.out) | exact HB.out)⟩⟩
    ·have c21b0 := decide_eq_false c21
     have c21b1 : decide (x625000_1.length < y607.length) = false := decide_eq_false (fun h => c21 (Int.ofNat_lt.mpr h))
     clear c21
     replace H := bi_ H; obtain ⟨⟨t654, t655, t656⟩, A74, H⟩ := H
     dsimp only at H
     replace H := itb_ H; obtain ⟨rfl, H⟩ | ⟨rfl, H⟩ := H
     ·have H' := Aside0.mk H
      clear H
      have hnb76 := NB624_601.out
      have hnc76 := NB601_624.out
      have hnb77 := NB624_0.out
      have hnc77 := NB0_624.out
      have hz78 := cz5_ BK624
      obtain ⟨Ao79, co79, eo79⟩ := Kd.R_slice HO_625000.out
      subst eo79
      go_wp2_with (first | ((with_reducible refine gk_ 75 ?_); refine gl_ 57 Try.func75 #[.pointer (some ⟨g, 0, none⟩), .int .i64 3] ?_; (with_reducible refine (spec_l1Once.calls g s0_0 x1001_1 x1002_1 3 true t655 t656 w0 _ ?side1 ?side2 A74.out).mono ?_); (case side1 => repeat (first | (with_reducible first | exact HI0.out | apply IsS111.alloc | apply IsS111.drewN | apply IsS111.drew | apply IsS111.set_1 | apply IsS111.set_2 | refine IsS111.far ?_ NB0_601.out _ | refine IsS111.far ?_ NB0_624.out _) | exact HI0.out)); (case side2 => repeat (first | (with_reducible first | exact HB.out | apply below_alloc | apply pw_below_drewN | apply below_drew1 | refine below_set ?_ (IsS111.ge HI0.out) | refine below_set ?_ GE601.out | refine below_set ?_ GE624.out) | exact HB.out)); rintro e w80 ⟨rfl, hi, hb, hk⟩; refine ⟨_, rfl, ?_⟩; replace HO_5 := Aside0.mk (Kd.R_mono (Kd.R_keep (IsS111.apart (show IsS111 w0 _ g s0_0 x1001_1 x1002_1 from by repeat (first | (with_reducible first | exact HI0.out | apply IsS111.alloc | apply IsS111.drewN | apply IsS111.drew | apply IsS111.set_1 | apply IsS111.set_2 | refine IsS111.far ?_ NB0_601.out _ | refine IsS111.far ?_ NB0_624.out _) | exact HI0.out)) (kr_ HO_5.out) (by decide)) hk (fun _ h => h.2)) (fun _ h => h.1)); replace HO_6 := Aside0.mk (Kd.R_mono (Kd.R_keep (IsS111.apart (show IsS111 w0 _ g s0_0 x1001_1 x1002_1 from by repeat (first | (with_reducible first | exact HI0.out | apply IsS111.alloc | apply IsS111.drewN | apply IsS111.drew | apply IsS111.set_1 | apply IsS111.set_2 | refine IsS111.far ?_ NB0_601.out _ | refine IsS111.far ?_ NB0_624.out _) | exact HI0.out)) (kr_ HO_6.out) (by decide)) hk (fun _ h => h.2)) (fun _ h => h.1)); replace HO_625000 := Aside0.mk (Kd.R_mono (Kd.R_keep (IsS111.apart (show IsS111 w0 _ g s0_0 x1001_1 x1002_1 from by repeat (first | (with_reducible first | exact HI0.out | apply IsS111.alloc | apply IsS111.drewN | apply IsS111.drew | apply IsS111.set_1 | apply IsS111.set_2 | refine IsS111.far ?_ NB0_601.out _ | refine IsS111.far ?_ NB0_624.out _) | exact HI0.out)) (kr_ HO_625000.out) (by decide)) hk (fun _ h => h.2)) (fun _ h => h.1)); replace HO_625003 := Aside0.mk (Kd.R_mono (Kd.R_keep (IsS111.apart (show IsS111 w0 _ g s0_0 x1001_1 x1002_1 from by repeat (first | (with_reducible first | exact HI0.out | apply IsS111.alloc | apply IsS111.drewN | apply IsS111.drew | apply IsS111.set_1 | apply IsS111.set_2 | refine IsS111.far ?_ NB0_601.out _ | refine IsS111.far ?_ NB0_624.out _) | exact HI0.out)) (kr_ HO_625003.out) (by decide)) hk (fun _ h => h.2)) (fun _ h => h.1)); replace BK601 := Aside0.mk (KeepBut.blk hk (g' := gb601) (o := .cells #[.slice none 0 0, .int .i64 0, .string (⟨#[]⟩ : ByteArray), .slice none 0 0, .int .i64 0] 37 (0, 0)) (kb_ BK601.out) NB601_0.out (by simp)); replace BK624 := Aside0.mk (KeepBut.blk hk (g' := gb624) (o := .cells #[.slice Ao79 x625000_1.length co79, .int .i64 x625001_1, .string x625002_1, u625003, .int .i64 x625004_1] 37 (0, 0)) (kb_ BK624.out) NB624_0.out (by simp)); replace HK := Aside0.mk (KeepBut.trans (by repeat (first | (with_reducible first | exact HK.out | apply KeepBut.set_ | apply keep_drewN | apply keep_drew | apply keep_alloc | refine keep_far ?_ GW601.out _ | refine keep_far ?_ GW624.out _) | exact HK.out)) hk (.inl rfl)); replace HB := Aside0.mk hb; replace HI0 := Aside0.mk hi; clear hb hk hi; have hz81 := cz5_ BK624; obtain ⟨Ao82, co82, eo82⟩ := Kd.R_slice HO_625003.out; subst eo82))
      go_roundg k1
      case measure => have := HK1.out; omega
      case rel => exact ⟨(wrap64 (x8_1 - 1)), (t655), (t656), (x625000_1), (x625001_1), (x625002_1), (x625003_1), ((x625003_1.length : Int)), (.slice Ao79 x625000_1.length co79), (.slice Ao82 x625003_1.length co82), e1_, H', ⟨by have := HK1.out; omega⟩, ⟨by (with_reducible repeat (first | apply Kd.R_alloc | apply Kd.R_drewN | apply Kd.R_drew)); exact Kd.R_mono (Kd.R_far (p := ⟨gb624, 4, none⟩) (Kd.R_types HO_5.out BK624.out (by decide)) (fun _ hk => hk.2) (.int .i64 (x625003_1.length : Int))) (fun _ hk => hk.1)⟩, ⟨by (with_reducible repeat (first | apply Kd.R_alloc | apply Kd.R_drewN | apply Kd.R_drew)); exact Kd.R_mono (Kd.R_far (p := ⟨gb624, 4, none⟩) (Kd.R_types HO_6.out BK624.out (by decide)) (fun _ hk => hk.2) (.int .i64 (x625003_1.length : Int))) (fun _ hk => trivial)⟩, ⟨by (with_reducible repeat (first | apply Kd.R_alloc | apply Kd.R_drewN | apply Kd.R_drew)); exact Kd.R_mono (Kd.R_far (p := ⟨gb624, 4, none⟩) (Kd.R_types HO_625000.out BK624.out (by decide)) (fun _ hk => hk.2) (.int .i64 (x625003_1.length : Int))) (fun _ hk => hk.1)⟩, ⟨by (with_reducible repeat (first | apply Kd.R_alloc | apply Kd.R_drewN | apply Kd.R_drew)); exact Kd.R_mono (Kd.R_far (p := ⟨gb624, 4, none⟩) (Kd.R_types HO_625003.out BK624.out (by decide)) (fun _ hk => hk.2) (.int .i64 (x625003_1.length : Int))) (fun _ hk => trivial)⟩, ⟨kq_ BK601⟩, ⟨kq_ BK624⟩, ⟨by repeat (first | (with_reducible first | exact HI0.out | apply IsS111.alloc | apply IsS111.drewN | apply IsS111.drew | apply IsS111.set_1 | apply IsS111.set_2 | refine IsS111.far ?_ NB0_601.out _ | refine IsS111.far ?_ NB0_624.out _) | exact HI0.out)⟩, ⟨by repeat (first | (with_reducible first | exact HK.out | apply KeepBut.set_ | apply keep_drewN | apply keep_drew | apply keep_alloc | refine keep_far ?_ GW601.out _ | refine keep_far ?_ GW624.out _) | exact HK.out)⟩, ⟨by repeat (first | (with_reducible first | exact HB.out | apply below_alloc | apply pw_below_drewN | apply below_drew1 | refine below_set ?_ (IsS111.ge HI0.out) | refine below_set ?_ GE601.out | refine below_set ?_ GE624.out) | exact HB.out)⟩⟩
     ·have H' := Aside0.mk H
      clear H
      have hnb83 := NB624_601.out
      have hnc83 := NB601_624.out
      have hnb84 := NB624_0.out
      have hnc84 := NB0_624.out
      have hz85 := cz5_ BK624
      obtain ⟨Ao86, co86, eo86⟩ := Kd.R_slice HO_625000.out
      subst eo86
      go_wp2_with (first | ((with_reducible refine gk_ 75 ?_); refine gl_ 57 Try.func75 #[.pointer (some ⟨g, 0, none⟩), .int .i64 3] ?_; (with_reducible refine (spec_l1Once.calls g s0_0 x1001_1 x1002_1 3 false t655 t656 w0 _ ?side1 ?side2 A74.out).mono ?_); (case side1 => repeat (first | (with_reducible first | exact HI0.out | apply IsS111.alloc | apply IsS111.drewN | apply IsS111.drew | apply IsS111.set_1 | apply IsS111.set_2 | refine IsS111.far ?_ NB0_601.out _ | refine IsS111.far ?_ NB0_624.out _) | exact HI0.out)); (case side2 => repeat (first | (with_reducible first | exact HB.out | apply below_alloc | apply pw_below_drewN | apply below_drew1 | refine below_set ?_ (IsS111.ge HI0.out) | refine below_set ?_ GE601.out | refine below_set ?_ GE624.out) | exact HB.out)); rintro e w87 ⟨rfl, hi, hb, hk⟩; refine ⟨_, rfl, ?_⟩; replace HO_5 := Aside0.mk (Kd.R_mono (Kd.R_keep (IsS111.apart (show IsS111 w0 _ g s0_0 x1001_1 x1002_1 from by repeat (first | (with_reducible first | exact HI0.out | apply IsS111.alloc | apply IsS111.drewN | apply IsS111.drew | apply IsS111.set_1 | apply IsS111.set_2 | refine IsS111.far ?_ NB0_601.out _ | refine IsS111.far ?_ NB0_624.out _) | exact HI0.out)) (kr_ HO_5.out) (by decide)) hk (fun _ h => h.2)) (fun _ h => h.1)); replace HO_6 := Aside0.mk (Kd.R_mono (Kd.R_keep (IsS111.apart (show IsS111 w0 _ g s0_0 x1001_1 x1002_1 from by repeat (first | (with_reducible first | exact HI0.out | apply IsS111.alloc | apply IsS111.drewN | apply IsS111.drew | apply IsS111.set_1 | apply IsS111.set_2 | refine IsS111.far ?_ NB0_601.out _ | refine IsS111.far ?_ NB0_624.out _) | exact HI0.out)) (kr_ HO_6.out) (by decide)) hk (fun _ h => h.2)) (fun _ h => h.1)); replace HO_625000 := Aside0.mk (Kd.R_mono (Kd.R_keep (IsS111.apart (show IsS111 w0 _ g s0_0 x1001_1 x1002_1 from by repeat (first | (with_reducible first | exact HI0.out | apply IsS111.alloc | apply IsS111.drewN | apply IsS111.drew | apply IsS111.set_1 | apply IsS111.set_2 | refine IsS111.far ?_ NB0_601.out _ | refine IsS111.far ?_ NB0_624.out _) | exact HI0.out)) (kr_ HO_625000.out) (by decide)) hk (fun _ h => h.2)) (fun _ h => h.1)); replace HO_625003 := Aside0.mk (Kd.R_mono (Kd.R_keep (IsS111.apart (show IsS111 w0 _ g s0_0 x1001_1 x1002_1 from by repeat (first | (with_reducible first | exact HI0.out | apply IsS111.alloc | apply IsS111.drewN | apply IsS111.drew | apply IsS111.set_1 | apply IsS111.set_2 | refine IsS111.far ?_ NB0_601.out _ | refine IsS111.far ?_ NB0_624.out _) | exact HI0.out)) (kr_ HO_625003.out) (by decide)) hk (fun _ h => h.2)) (fun _ h => h.1)); replace BK601 := Aside0.mk (KeepBut.blk hk (g' := gb601) (o := .cells #[.slice none 0 0, .int .i64 0, .string (⟨#[]⟩ : ByteArray), .slice none 0 0, .int .i64 0] 37 (0, 0)) (kb_ BK601.out) NB601_0.out (by simp)); replace BK624 := Aside0.mk (KeepBut.blk hk (g' := gb624) (o := .cells #[.slice Ao86 x625000_1.length co86, .int .i64 x625001_1, .string x625002_1, u625003, .int .i64 x625004_1] 37 (0, 0)) (kb_ BK624.out) NB624_0.out (by simp)); replace HK := Aside0.mk (KeepBut.trans (by repeat (first | (with_reducible first | exact HK.out | apply KeepBut.set_ | apply keep_drewN | apply keep_drew | apply keep_alloc | refine keep_far ?_ GW601.out _ | refine keep_far ?_ GW624.out _) | exact HK.out)) hk (.inl rfl)); replace HB := Aside0.mk hb; replace HI0 := Aside0.mk hi; clear hb hk hi))
      go_roundg k1
      case measure => have := HK1.out; omega
      case rel => exact ⟨(wrap64 (x8_1 - 1)), (t655), (t656), (x625000_1), (x625001_1), (x625002_1), (x625003_1), (x625004_1), (.slice Ao86 x625000_1.length co86), (u625003), e1_, H', ⟨by have := HK1.out; omega⟩, ⟨kr_ HO_5.out⟩, ⟨kr_ HO_6.out⟩, ⟨kr_ HO_625000.out⟩, ⟨kr_ HO_625003.out⟩, ⟨kb_ BK601.out⟩, ⟨kb_ BK624.out⟩, ⟨by repeat (first | (with_reducible first | exact HI0.out | apply IsS111.alloc | apply IsS111.drewN | apply IsS111.drew | apply IsS111.set_1 | apply IsS111.set_2 | refine IsS111.far ?_ NB0_601.out _ | refine IsS111.far ?_ NB0_624.out _) | exact HI0.out)⟩, ⟨by repeat (first | (with_reducible first | exact HK.out | apply KeepBut.set_ | apply keep_drewN | apply keep_drew | apply keep_alloc | refine keep_far ?_ GW601.out _ | refine keep_far ?_ GW624.out _) | exact HK.out)⟩, ⟨by repeat (first | (with_reducible first | exact HB.out | apply below_alloc | apply pw_below_drewN | apply below_drew1 | refine below_set ?_ (IsS111.ge HI0.out) | refine below_set ?_ GE601.out | refine below_set ?_ GE624.out) | exact HB.out)⟩⟩
   ·have c20b0 : decide (0 < x8_1) = false := decide_eq_false c20
    clear c20
    simp only [Option.some.injEq, Prod.mk.injEq] at H
    obtain ⟨rfl, rfl, rfl, rfl, rfl, rfl, rfl, rfl, rfl⟩ := H
    have hnb88 := NB624_601.out
    have hnc88 := NB601_624.out
    have hnb89 := NB624_0.out
    have hnc89 := NB0_624.out
    have hz90 := cz5_ BK624
    obtain ⟨Ao91, co91, eo91⟩ := Kd.R_slice HO_625000.out
    subst eo91
    have hnb92 := NB601_0.out
    have hnc92 := NB0_601.out
    have hz93 := cz5_ BK601
    obtain ⟨Ao94, co94, eo94⟩ := Kd.R_slice HO_625003.out
    subst eo94
    go_wp2
    refine bodyPost_ret (results_ctt rfl _ _ gb601 37 #[.slice Ao91 x625000_1.length co91, .int .i64 x625001_1, .string x625002_1, .slice Ao94 x625003_1.length co94, .int .i64 x625004_1] (0, 0) _ rfl (by exact kq_ BK601) Try.underlying37 rfl (by kernel_rfl)) rfl ?_
    exact ⟨_, _, _, _, e2_, by (with_reducible repeat (first | apply Kd.R_alloc | apply Kd.R_drewN | apply Kd.R_drew)); exact Kd.R_mono (Kd.R_far (p := ⟨gb601, 4, none⟩) (Kd.R_far (p := ⟨gb601, 3, none⟩) (Kd.R_far (p := ⟨gb601, 2, none⟩) (Kd.R_far (p := ⟨gb601, 1, none⟩) (Kd.R_far (p := ⟨gb601, 0, none⟩) (Kd.R_types HO_625000.out BK601.out (by decide)) (fun _ hk => hk.2) (.slice Ao91 x625000_1.length co91)) (fun _ hk => hk.2) (.int .i64 x625001_1)) (fun _ hk => hk.2) (.string x625002_1)) (fun _ hk => hk.2) (.slice Ao94 x625003_1.length co94)) (fun _ hk => hk.2) (.int .i64 x625004_1)) (fun _ hk => hk.1), by (with_reducible repeat (first | apply Kd.R_alloc | apply Kd.R_drewN | apply Kd.R_drew)); exact Kd.R_mono (Kd.R_far (p := ⟨gb601, 4, none⟩) (Kd.R_far (p := ⟨gb601, 3, none⟩) (Kd.R_far (p := ⟨gb601, 2, none⟩) (Kd.R_far (p := ⟨gb601, 1, none⟩) (Kd.R_far (p := ⟨gb601, 0, none⟩) (Kd.R_types HO_625003.out BK601.out (by decide)) (fun _ hk => hk.2) (.slice Ao91 x625000_1.length co91)) (fun _ hk => hk.2) (.int .i64 x625001_1)) (fun _ hk => hk.2) (.string x625002_1)) (fun _ hk => hk.2) (.slice Ao94 x625003_1.length co94)) (fun _ hk => hk.2) (.int .i64 x625004_1)) (fun _ hk => trivial), by (with_reducible repeat (first | apply Kd.R_alloc | apply Kd.R_drewN | apply Kd.R_drew)); exact Kd.R_mono (Kd.R_far (p := ⟨gb601, 4, none⟩) (Kd.R_far (p := ⟨gb601, 3, none⟩) (Kd.R_far (p := ⟨gb601, 2, none⟩) (Kd.R_far (p := ⟨gb601, 1, none⟩) (Kd.R_far (p := ⟨gb601, 0, none⟩) (Kd.R_types HO_5.out BK601.out (by decide)) (fun _ hk => hk.2) (.slice Ao91 x625000_1.length co91)) (fun _ hk => hk.2) (.int .i64 x625001_1)) (fun _ hk => hk.2) (.string x625002_1)) (fun _ hk => hk.2) (.slice Ao94 x625003_1.length co94)) (fun _ hk => hk.2) (.int .i64 x625004_1)) (fun _ hk => hk.1), by (with_reducible repeat (first | apply Kd.R_alloc | apply Kd.R_drewN | apply Kd.R_drew)); exact Kd.R_mono (Kd.R_far (p := ⟨gb601, 4, none⟩) (Kd.R_far (p := ⟨gb601, 3, none⟩) (Kd.R_far (p := ⟨gb601, 2, none⟩) (Kd.R_far (p := ⟨gb601, 1, none⟩) (Kd.R_far (p := ⟨gb601, 0, none⟩) (Kd.R_types HO_6.out BK601.out (by decide)) (fun _ hk => hk.2) (.slice Ao91 x625000_1.length co91)) (fun _ hk => hk.2) (.int .i64 x625001_1)) (fun _ hk => hk.2) (.string x625002_1)) (fun _ hk => hk.2) (.slice Ao94 x625003_1.length co94)) (fun _ hk => hk.2) (.int .i64 x625004_1)) (fun _ hk => trivial), by repeat (first | (with_reducible first | exact HI0.out | apply IsS111.alloc | apply IsS111.drewN | apply IsS111.drew | apply IsS111.set_1 | apply IsS111.set_2 | refine IsS111.far ?_ NB0_601.out _ | refine IsS111.far ?_ NB0_624.out _) | exact HI0.out), by repeat (first | (with_reducible first | exact HB.out | apply below_alloc | apply pw_below_drewN | apply below_drew1 | refine below_set ?_ (IsS111.ge HI0.out) | refine below_set ?_ GE601.out | refine below_set ?_ GE624.out) | exact HB.out), by repeat (first | (with_reducible first | exact HK.out | apply KeepBut.set_ | apply keep_drewN | apply keep_drew | apply keep_alloc | refine keep_far ?_ GW601.out _ | refine keep_far ?_ GW624.out _) | exact HK.out)⟩
end Go.Proofs.Ytjnnglphdaemaaa.Q
end

section
/- Drawn stores: what they are made of. -/
namespace Go.Proofs.Ytjnnglphdaemaaa.Q
open Go.RowKit Go.Proofs.Ytjnnglphdaemaaa.B Go.Proofs.YtjnnglphdaemaaaW.PrintWords Go.Proofs.YtjnnglphdaemaaaW.PrintMore
set_option linter.unusedVariables false
set_option linter.unusedSimpArgs false
theorem few_total {l : List ByteArray} {n : Nat} (hx : ∀ x ∈ l, x.size ≤ n) : total l ≤ n * (l.length : Int) := by
 induction l with
 | nil => simp [total]
 | cons a l ih =>
  have h1 := hx a (by simp)
  have h2 := ih (fun x hm => hx x (by simp [hm]))
  rw [total_cons]
  simp only [List.length_cons]
  have : (n : Int) * ((l.length + 1 : Nat) : Int) = n * (l.length : Int) + n := by
   rw [Int.natCast_add, Int.mul_add]
   simp
  omega
theorem commit_small9 (N : Nat) {l : List ByteArray} {s : ByteArray} (hN : N ≤ 200) (hl : l.length ≤ 20) (hx : ∀ x ∈ l, x.size ≤ 3) (hs : s.size = 32) : (commitB N s l).length ≤ 1000 := by
 have w1 := commitB_length N s l
 have ht := few_total hx
 have hm := manyB_length l (fun x hm => by have := hx x hm; omega)
 have n0 := num_five (show N ≤ 1000000000 by omega)
 have n1 := num_five (show l.length ≤ 1000000000 by omega)
 have n2 := num_five (show s.size ≤ 1000000000 by omega)
 have hb : (bodyB N s l).length ≤ 500 := by
  unfold bodyB textsB
  rw [List.length_append, List.length_append, List.length_append, textB_length]
  omega
 have n3 := num_five (show (bodyB N s l).length ≤ 1000000000 by omega)
 omega
theorem specCommit_ev (t : List IHead) (ht : t.length ≤ 9223372036854775807) (l : List ByteArray) (b : List Int) (u : Int) (hl : l.length ≤ 200) (hs : ∀ y ∈ l, y.size ≤ bigB) (hb : b.length ≤ 60000) {x : List ByteArray} (h1 : 1 ≤ x.length) (h2 : (l ++ x).length ≤ 20) (hx : ∀ y ∈ x, y.size ≤ 3) :
  (Good t l (l ++ x).length (rootBy leafH (l ++ x)) x ∧ Ev (fun k => spec_l12Commit.f k l (headOf l).1 (headOf l).2 b u t ((l ++ x).length : Int) (rootBy leafH (l ++ x)) x) (l ++ x, ((l ++ x).length : Int), rootBy leafH (l ++ x), b ++ commitB (l ++ x).length (rootBy leafH (l ++ x)) x, u, 0)) ∨
  (∃ q, Ev (fun k => spec_l12Commit.f k l (headOf l).1 (headOf l).2 b u t ((l ++ x).length : Int) (rootBy leafH (l ++ x)) x) (l, (headOf l).1, (headOf l).2, b, u, q)) := by
 have hxb : ∀ y ∈ x, y.size ≤ bigB := fun y hy => by have := hx y hy; unfold bigB; omega
 have hxl : x.length ≤ 20 := by rw [List.length_append] at h2; omega
 have hsm := commit_small9 (l ++ x).length (by omega) hxl hx (root_32 (l ++ x))
 have hE := spec_Extend_ev t l (headOf l).1 (headOf l).2 ((l ++ x).length : Int) (rootBy leafH (l ++ x)) x ht (sizes_app hs hxb) (by omega)
 unfold extendOf at hE
 rw [if_pos (logOk_head hl)] at hE
 have hcp := spec_l12Copy_eq l (headOf l).1 (headOf l).2 b u (by omega) (by omega)
 by_cases hg : Good t l (l ++ x).length (rootBy leafH (l ++ x)) x
 ·left
  refine ⟨hg, ?_⟩
  rw [ext_good h1 hg] at hE
  have htt := few_total hx
  have hP := l12Put_val (l ++ x).length (rootBy leafH (l ++ x)) x (by omega) (by rw [root_32]; omega) (by omega) (by omega) (fun y hy => by have := hx y hy; omega)
  unfold spec_l12Commit.f
  rw [hcp]
  simp only [Option.bind_some]
  exact Ev.bind hE (Ev.pos rfl (Ev.bind hP (Ev.pos (by omega) (Ev.now _))))
 ·right
  obtain ⟨q, hq, hq0⟩ := ext_bad (headOf l).1 (headOf l).2 hg
  rw [hq] at hE
  refine ⟨q, ?_⟩
  unfold spec_l12Commit.f
  rw [hcp]
  simp only [Option.bind_some]
  exact Ev.bind hE (Ev.neg hq0 (Ev.now _))
structure Stored (t : List IHead) (all l : List ByteArray) (b : List Int) (u : Int) (d : Nat) : Prop where
 opened : ∃ c, Opened t [] b l b c
 begins : ∃ n, l = all.take n
 sure : 0 ≤ u ∧ u ≤ b.length
 bytes : InB b
 small : b.length ≤ 1000 * d
theorem sub_w {a b : Nat} (h : a < b) (hb : b ≤ 20) : wrap64 ((b : Int) - (a : Int)) = ((b - a : Nat) : Int) := by
 rw [w64 (by omega) (by omega)]
 omega
theorem add_w {a y : Nat} (h : a + 1 + y ≤ 20) : wrap64 (wrap64 ((a : Int) + 1) + (y : Int)) = ((a + 1 + y : Nat) : Int) := by
 rw [w64 (x := (a : Int) + 1) (by omega) (by omega), w64 (by omega) (by omega)]
 omega
theorem pred_w {d : Nat} (h : d ≤ 20) : wrap64 (((d + 1 : Nat) : Int) - 1) = (d : Int) := by
 rw [w64 (by omega) (by omega)]
 omega
theorem take_cut {all l : List ByteArray} {n m : Nat} (hn : l = all.take n) (hm : l.length ≤ m) : all.take m = l ++ (all.take m).drop l.length := by
 have hl' : all.take l.length = l := by
  conv => rhs; rw [hn]
  rw [hn, List.length_take]
  by_cases hc : n ≤ all.length
  ·rw [Nat.min_eq_left hc]
  ·rw [Nat.min_eq_right (by omega), List.take_of_length_le (show all.length ≤ n by omega), List.take_length]
 have : (all.take m).take l.length = all.take l.length := by rw [List.take_take, Nat.min_eq_left hm]
 conv => lhs; rw [← List.take_append_drop l.length (all.take m)]
 rw [this, hl']
set_option maxHeartbeats 4000000 in
theorem draw_l0 {s : List Int} (all : List ByteArray) (ha : all.length ≤ 20) (hx : ∀ y ∈ all, y.size ≤ 3) (t : List IHead) (ht : t.length ≤ 1000) : ∀ (d e : Nat) (i h : Int) (l : List ByteArray) (b : List Int) (u : Int), d + e ≤ 10 → Drawer s i → Stored t all l b u e →
  ∃ l' b' u' i' h', Ev (fun k => spec_l12Draw.l0 k all t (d : Int) s i h l (headOf l).1 (headOf l).2 b u) (l', (headOf l').1, (headOf l').2, b', u', all, t, i', h') ∧ Stored t all l' b' u' (d + e) ∧ Drawer s i' := by
 intro d
 induction d with
 | zero =>
  intro e i h l b u hd hr hS
  refine ⟨l, b, u, i, h, ?_, by rw [Nat.zero_add]; exact hS, hr⟩
  refine Ev.step (fun k => by simp only [spec_l12Draw.l0]; rfl) ?_
  exact Ev.neg (by omega) (Ev.now _)
 | succ d ih =>
  intro e i h l b u hd hr hS
  obtain ⟨n, hn⟩ := hS.begins
  obtain ⟨c, ho⟩ := hS.opened
  have hll : l.length ≤ all.length := by rw [hn, List.length_take]; omega
  have hsm := hS.small
  have hlx : ∀ y ∈ l, y.size ≤ 3 := fun y hy => hx y (by rw [hn] at hy; exact List.mem_of_mem_take hy)
  have hlb : ∀ y ∈ l, y.size ≤ bigB := fun y hy => by have := hlx y hy; unfold bigB; omega
  have d20 : d ≤ 20 := by omega
  refine Exists.elim (l1Once_ok h 3 hr (by decide) (by decide)) (fun q0 hq0 => ?_)
  by_cases hlt : (l.length : Int) < (all.length : Int)
  ·have hlt2 : l.length < all.length := by omega
   obtain ⟨y, i1, h1, e1, y0, y1, d1⟩ := l1Below_ok h ((all.length - l.length : Nat) : Int) hr (by omega) (by omega)
   obtain ⟨y, rfl⟩ := Int.eq_ofNat_of_zero_le y0
   have hm : l.length + 1 + y ≤ all.length := by omega
   have hm20 : l.length + 1 + y ≤ 20 := by omega
   have ecut := take_cut (m := l.length + 1 + y) hn (by omega)
   have ex : ∃ x, x = (all.take (l.length + 1 + y)).drop l.length := ⟨_, rfl⟩
   obtain ⟨x, hxe⟩ := ex
   rw [← hxe] at ecut
   have hxl : x.length = y + 1 := by
    rw [hxe, List.length_drop, List.length_take]
    omega
   have hxx : ∀ z ∈ x, z.size ≤ 3 := fun z hz => hx z (by rw [hxe] at hz; exact List.mem_of_mem_take (List.mem_of_mem_drop hz))
   have hcl : (l ++ x).length = l.length + 1 + y := by rw [List.length_append]; omega
   have hHead := spec_HeadOf_ev (l ++ x) (sizes_app hlb (fun z hz => by have := hxx z hz; unfold bigB; omega))
   rw [headOf_few (by omega)] at hHead
   have step : ∀ {L : List ByteArray} {N : Int} {Z : ByteArray} {B : List Int} {q : Int}, Ev (fun k => spec_l12Commit.f k l (headOf l).1 (headOf l).2 b u t ((l ++ x).length : Int) (rootBy leafH (l ++ x)) x) (L, N, Z, B, u, q) → N = (headOf L).1 → Z = (headOf L).2 → Stored t all L B u (e + 1) →
     ∃ l' b' u' i' h', Ev (fun k => spec_l12Draw.l0 k all t ((d + 1 : Nat) : Int) s i h l (headOf l).1 (headOf l).2 b u) (l', (headOf l').1, (headOf l').2, b', u', all, t, i', h') ∧ Stored t all l' b' u' (d + 1 + e) ∧ Drawer s i' := by
    intro L N Z B q hC hN hZ hSt
    subst hN hZ
    obtain ⟨o, i2, h2, e2, d2⟩ := l1Once_ok h1 3 d1 (by decide) (by decide)
    have fin : ∀ u', Stored t all L B u' (e + 1) → (o = true → u' = (B.length : Int)) → (o = false → u' = u) → ∃ l' b' u'' i' h', Ev (fun k => spec_l12Draw.l0 k all t ((d + 1 : Nat) : Int) s i h l (headOf l).1 (headOf l).2 b u) (l', (headOf l').1, (headOf l').2, b', u'', all, t, i', h') ∧ Stored t all l' b' u'' (d + 1 + e) ∧ Drawer s i' := by
     intro u' hSt' ho1 ho2
     obtain ⟨l', b', u'', i', h', j1, j2, j3⟩ := ih (e + 1) i2 h2 L B u' (by omega) d2 hSt'
     refine ⟨l', b', u'', i', h', ?_, by rw [show d + 1 + e = d + (e + 1) by omega]; exact j2, j3⟩
     refine Ev.step (fun k => by simp only [spec_l12Draw.l0]; rfl) ?_
     rw [sub_w hlt2 ha, pred_w d20]
     refine Ev.pos (by omega) (Ev.pos hlt (Ev.bind (Ev.const e1) ?_))
     simp only
     rw [add_w hm20, Int.toNat_natCast, Int.toNat_natCast, ← hxe, ecut]
     rw [hcl] at hHead hC
     refine Ev.pos (by omega) (Ev.pos (by omega) (Ev.bind hHead (Ev.pos (by omega) (Ev.pos (by omega) (Ev.bind hC (Ev.bind (Ev.const e2) ?_))))))
     cases o with
     | true =>
      rw [ho1 rfl] at j1
      exact Ev.pos rfl j1
     | false =>
      rw [ho2 rfl] at j1
      exact Ev.neg (by simp) j1
    cases o with
    | true => exact fin (B.length : Int) ⟨hSt.opened, hSt.begins, ⟨by omega, by omega⟩, hSt.bytes, hSt.small⟩ (fun _ => rfl) (fun h => nomatch h)
    | false => exact fin u hSt (fun h => nomatch h) (fun _ => rfl)
   rcases specCommit_ev t (by omega) l b u (by omega) hlb (by omega) (x := x) (by omega) (by omega) hxx with ⟨hg, hC⟩ | ⟨q, hC⟩
   ·have hh := headOf_few (l := l ++ x) (by omega)
    refine step hC (by rw [hh]) (by rw [hh]) ?_
    have hcs := commit_small9 (l ++ x).length (by omega) (l := x) (by omega) hxx (root_32 (l ++ x))
    refine ⟨⟨_, opened_more ho rfl (by omega) (by omega) (fun z hz => by have := hxx z hz; omega) hg⟩, ⟨l.length + 1 + y, ecut.symm⟩, ⟨hS.sure.1, by rw [List.length_append]; have := hS.sure.2; omega⟩, inB_app hS.bytes (commitB_inB _ _ _), by rw [List.length_append]; omega⟩
   ·exact step hC rfl rfl ⟨hS.opened, hS.begins, hS.sure, hS.bytes, by omega⟩
  ·obtain ⟨i2, h2, e2, d2⟩ := hq0
   have fin : ∀ u', Stored t all l b u' (e + 1) → (q0 = true → u' = (b.length : Int)) → (q0 = false → u' = u) → ∃ l' b' u'' i' h', Ev (fun k => spec_l12Draw.l0 k all t ((d + 1 : Nat) : Int) s i h l (headOf l).1 (headOf l).2 b u) (l', (headOf l').1, (headOf l').2, b', u'', all, t, i', h') ∧ Stored t all l' b' u'' (d + 1 + e) ∧ Drawer s i' := by
    intro u' hSt' ho1 ho2
    obtain ⟨l', b', u'', i', h', j1, j2, j3⟩ := ih (e + 1) i2 h2 l b u' (by omega) d2 hSt'
    refine ⟨l', b', u'', i', h', ?_, by rw [show d + 1 + e = d + (e + 1) by omega]; exact j2, j3⟩
    refine Ev.step (fun k => by simp only [spec_l12Draw.l0]; rfl) ?_
    rw [pred_w d20]
    refine Ev.pos (by omega) (Ev.neg hlt (Ev.bind (Ev.const e2) ?_))
    cases q0 with
    | true =>
     rw [ho1 rfl] at j1
     exact Ev.pos rfl j1
    | false =>
     rw [ho2 rfl] at j1
     exact Ev.neg (by simp) j1
   cases q0 with
   | true => exact fin (b.length : Int) ⟨hS.opened, hS.begins, ⟨by omega, by omega⟩, hS.bytes, by omega⟩ (fun _ => rfl) (fun h => nomatch h)
   | false => exact fin u ⟨hS.opened, hS.begins, hS.sure, hS.bytes, by omega⟩ (fun h => nomatch h) (fun _ => rfl)
theorem l12Draw_ev {s : List Int} {i : Int} (h : Int) (hd : Drawer s i) : ∃ l b u all t i' h', Ev (fun k => spec_l12Draw.f k s i h) (l, (headOf l).1, (headOf l).2, b, u, all, t, i', h') ∧ Stored t all l b u 3 ∧ Drawer s i' ∧ all.length ≤ 9 ∧ 1 ≤ all.length ∧ (∀ x ∈ all, x.size ≤ 3) ∧ t.length ≤ 1000 := by
 obtain ⟨a, i1, h1, e1, d1, ha, hx⟩ := l6List_ev h hd
 have hx2 : ∀ x ∈ a ++ [(⟨#[113]⟩ : ByteArray)], x.size ≤ 3 := fun x hm => by
  rcases List.mem_append.1 hm with hm | hm
  ·exact hx x hm
  ·rw [List.mem_singleton.1 hm]
   decide
 have hal : (a ++ [(⟨#[113]⟩ : ByteArray)]).length = a.length + 1 := by simp
 obtain ⟨T, i2, h2, e2, d2, hT, _⟩ := l10Table_ev h1 d1 (a ++ [(⟨#[113]⟩ : ByteArray)]) (by omega) (fun x hm => by have := hx2 x hm; unfold bigB; omega)
 have hTl : (T ++ [lastHead (a ++ [(⟨#[113]⟩ : ByteArray)])]).length = T.length + 1 := by simp
 obtain ⟨n, i3, h3, e3, n0, n1, d3⟩ := l1Below_ok h2 4 d2 (by decide) (by decide)
 obtain ⟨n, rfl⟩ := Int.eq_ofNat_of_zero_le n0
 obtain ⟨l', b', u', i', h', j1, j2, j3⟩ := draw_l0 (s := s) (a ++ [(⟨#[113]⟩ : ByteArray)]) (by omega) hx2 (T ++ [lastHead (a ++ [(⟨#[113]⟩ : ByteArray)])]) (by omega) n 0 i3 h3 [] [] 0 (by omega) d3 ⟨⟨0, opened_nil _ _⟩, ⟨0, rfl⟩, ⟨by omega, by simp⟩, by simp [InB], by simp⟩
 refine ⟨l', b', u', _, _, i', h', ?_, ⟨j2.opened, j2.begins, j2.sure, j2.bytes, by have := j2.small; omega⟩, j3, by omega, by omega, hx2, by omega⟩
 unfold spec_l12Draw.f
 refine Ev.bind e1 ?_
 simp only
 exact Ev.pos (by omega) (Ev.bind (Ev.now _) (Ev.bind e2 (Ev.bind spec_StoreNew_ev (Ev.bind (Ev.const e3) j1))))
end Go.Proofs.Ytjnnglphdaemaaa.Q
end

section
-- Written by a program of this session (wip/tools/pp.sh) over the print of the kit.
namespace Go.Proofs.Ytjnnglphdaemaaa.Q
open Go.RowKit Go.Proofs.YtjnnglphdaemaaaW.PrintWords Go.Proofs.YtjnnglphdaemaaaW.PrintLast Go.Proofs.YtjnnglphdaemaaaW.PrintMore
attribute [local go_sem] max2_int min2_int max_two min_two max_three min_three max_four min_four   -- for this text's walks alone
set_option linter.unusedVariables false
set_option linter.unusedSimpArgs false
def impl_FallStore.f (l0_0 : List ByteArray) (a0_1 : Int) (a0_2 : ByteArray) (l0_3 : List Int) (a0_4 : Int) (a1 : Int) : Option (List Int) := if 0 ≤ (wrap64 ((mx 0 (mn a0_4 (l0_3.length : Int))) + (mn (mx a1 0) (wrap64 ((l0_3.length : Int) - (mx 0 (mn a0_4 (l0_3.length : Int)))))))) then (if (wrap64 ((mx 0 (mn a0_4 (l0_3.length : Int))) + (mn (mx a1 0) (wrap64 ((l0_3.length : Int) - (mx 0 (mn a0_4 (l0_3.length : Int)))))))) ≤ (l0_3.length : Int) then ((slices_Clone_byte_byte.f (l0_3.take ((wrap64 ((mx 0 (mn a0_4 (l0_3.length : Int))) + (mn (mx a1 0) (wrap64 ((l0_3.length : Int) - (mx 0 (mn a0_4 (l0_3.length : Int)))))))) : Int).toNat)).bind fun t603 => (some t603)) else (none)) else (none)
set_option maxHeartbeats 8000000 in
set_option maxRecDepth 100000 in
theorem impl_FallStore.calls (A0_0 : Option Addr) (c0_0 : Nat) (l0_0 : List ByteArray) (a0_1 : Int) (a0_2 : ByteArray) (A0_3 : Option Addr) (c0_3 : Nat) (l0_3 : List Int) (a0_4 : Int) (a1 : Int) (r : List Int) (w : World) (hr0_0 : Kd.C Kd.string w A0_0 l0_0.length l0_0) (hc0_0 : l0_0.length ≤ c0_0) (hr0_3 : Kd.C (Kd.int .u8) w A0_3 l0_3.length l0_3) (hc0_3 : l0_3.length ≤ c0_3) (h : impl_FallStore.f l0_0 a0_1 a0_2 l0_3 a0_4 a1 = some r) :
  Calls Try.prog 40 #[.agg #[.slice A0_0 l0_0.length c0_0, .int .i64 a0_1, .string a0_2, .slice A0_3 l0_3.length c0_3, .int .i64 a0_4], .int .i64 a1] w fun e w' => ∃ v0_ : Value, e = .returned (v0_) ∧ Kd.R (Kd.int .u8) 5 w' w.heap.size (fun _ => True) v0_ r ∧ Below w.heap.size w w' := by
 have hu37 := Try.underlying37
 have HR0_0 := Aside0.mk hr0_0
 have HC0_0 := Aside0.mk hc0_0
 clear hr0_0 hc0_0
 have HR0_3 := Aside0.mk hr0_3
 have HC0_3 := Aside0.mk hc0_3
 clear hr0_3 hc0_3
 have HB := Aside0.mk (Below.refl w.heap.size w)
 have H : (if 0 ≤ (wrap64 ((mx 0 (mn a0_4 (l0_3.length : Int))) + (mn (mx a1 0) (wrap64 ((l0_3.length : Int) - (mx 0 (mn a0_4 (l0_3.length : Int)))))))) then (if (wrap64 ((mx 0 (mn a0_4 (l0_3.length : Int))) + (mn (mx a1 0) (wrap64 ((l0_3.length : Int) - (mx 0 (mn a0_4 (l0_3.length : Int)))))))) ≤ (l0_3.length : Int) then ((slices_Clone_byte_byte.f (l0_3.take ((wrap64 ((mx 0 (mn a0_4 (l0_3.length : Int))) + (mn (mx a1 0) (wrap64 ((l0_3.length : Int) - (mx 0 (mn a0_4 (l0_3.length : Int)))))))) : Int).toNat)).bind fun t603 => (some t603)) else (none)) else (none)) = some r := h
 clear h
 generalize hji3 : (mn a0_4 (l0_3.length : Int)) = ji3 at H
 have hji3_ : (if (l0_3.length : Int) < a0_4 then (l0_3.length : Int) else a0_4) = ji3 := hji3
 generalize hji4 : (mx 0 (ji3)) = ji4 at H
 have hji4_ : (if 0 < (ji3) then (ji3) else 0) = ji4 := hji4
 generalize hji5 : (mx a1 0) = ji5 at H
 (try (have hji5l : 0 ≤ ji5 := by (rw [← hji5]; unfold mx; (repeat' split) <;> omega)))
 (try (have hji5m : 0 ≤ ji5 := by omega))
 have hji5_ : (if a1 < 0 then 0 else a1) = ji5 := hji5
 generalize hji6 : (mn (ji5) (wrap64 ((l0_3.length : Int) - (ji4)))) = ji6 at H
 have hji6_ : (if (wrap64 ((l0_3.length : Int) - (ji4))) < (ji5) then (wrap64 ((l0_3.length : Int) - (ji4))) else (ji5)) = ji6 := hji6
 generalize hji7 : (wrap64 ((ji4) + (ji6))) = ji7 at H
 have hji7w : (IntKind.i64.wrap ((ji4) + (ji6))) = ji7 := (i64_w _).trans hji7
 replace H := ip_ H; obtain ⟨c8, H⟩ := H
 have c8b0 := eq_true c8
 have c8b1 := decide_eq_true c8
 clear c8
 replace H := ip_ H; obtain ⟨c9, H⟩ := H
 have c9b0 := eq_true c9
 have c9b1 := decide_eq_true c9
 clear c9
 replace H := bi_ H; obtain ⟨t603, A10, H⟩ := H
 obtain rfl := Option.some.inj H
 go_enter Try.func40, Try.ntmps40
 go_wp2_with (first | ((with_reducible refine gd_ 2 ?_); refine bx_ 2 37 #[.slice A0_0 l0_0.length c0_0, .int .i64 a0_1, .string a0_2, .slice A0_3 l0_3.length c0_3, .int .i64 a0_4] ?_; intro gb601 hg w11 hbox hb; have BK601 := Aside0.mk hbox; have GW601 := gg_ hg HB; have GE601 := GW601; replace HB := ss_ HB hb; clear hb hbox hg; have hz12 := cz5_ BK601; obtain ⟨i013, hi013, _, hsz13, _⟩ := info_parts info5; obtain ⟨hcut13, hA13, hC13⟩ := print_take_of (P := Try.prog) (Value.int .u8) 0 22 5 .i64 Try.underlying22 hi013 hsz13 A0_3 c0_3 l0_3 (ji7) (of_decide_eq_true as_) (of_decide_eq_true as_) HC0_3.out; have HR602 := Aside0.mk (Kd.C_of_reads (h1 := fun _ => rfl) (hA13 _ (Kd.reads_of_C HR0_3.out))); have HC602 := Aside0.mk hC13; clear hA13 hC13 hi013 hsz13) | ((with_reducible refine gk_ 85 ?_); refine gl_ 28 Try.func85 #[.slice A0_3 (l0_3.take ((ji7) : Int).toNat).length c0_3] ?_ (hargs := (by (try simp only [List.map_toArray, List.map_cons, List.map_nil]); first | done | (rw [show (l0_3.take ((ji7) : Int).toNat).length = (ji7).toNat from (by rw [List.length_take]; have h_ : ((ji7) : Int) ≤ (l0_3.length : Int) := of_decide_eq_true as_; omega)] <;> rfl) | (simp only [hji7]; rfl) | rfl | (simp only [List.length_drop, List.length_take]; rfl))); (with_reducible refine (slices_Clone_byte_byte.calls _ _ (l0_3.take ((ji7) : Int).toNat) t603 _ ?side1 ?side2 A10.out).mono ?_); (case side1 => exact cb_ HR602 HB); (case side2 => exact HC602.out); rintro e w14 ⟨v604, rfl, ho0, hb⟩; refine ⟨_, rfl, ?_⟩; have HO605 := Aside0.mk (Kd.R_lower ho0 (sz_ HB)); replace BK601 := kl_ BK601 hb; replace HB := ss_ HB hb; clear hb ho0))
 go_ret
 exact ⟨_, by first | rfl | (simp [errW_none, errW_some] <;> rfl) | (simp only [← hji3, ← hji4, ← hji5, ← hji6, ← hji7]; first | rfl | (simp [errW_none, errW_some] <;> rfl)) | (simp [*, errW_none, errW_some] <;> rfl), kr_ HO605.out, bw_ HB⟩
end Go.Proofs.Ytjnnglphdaemaaa.Q
end

section
/- What is left of a store's bytes behind a fall, by the program. -/
namespace Go.Proofs.Ytjnnglphdaemaaa.Q
open Go.RowKit Go.Proofs.Ytjnnglphdaemaaa.B Go.Proofs.YtjnnglphdaemaaaW.PrintWords Go.Proofs.YtjnnglphdaemaaaW.PrintMore
set_option linter.unusedVariables false
set_option linter.unusedSimpArgs false
theorem mx_eq (a b : Int) : mx a b = max a b := by
 unfold mx
 by_cases h : a < b
 ·rw [if_pos h]
  omega
 ·rw [if_neg h]
  omega
theorem mn_eq (a b : Int) : mn a b = min a b := by
 unfold mn
 by_cases h : b < a
 ·rw [if_pos h]
  omega
 ·rw [if_neg h]
  omega
def fallAt (n s keep : Int) : Int := s + min (max keep 0) (n - s)
def fallOf (b : List Int) (sure keep : Int) : List Int := b.take (fallAt b.length (max 0 (min sure b.length)) keep).toNat
theorem impl_FallStore_eq (l : List ByteArray) (n : Int) (r : ByteArray) (b : List Int) (u keep : Int) (hb : b.length ≤ 1048576) : impl_FallStore.f l n r b u keep = some (fallOf b u keep) := by
 unfold impl_FallStore.f fallOf fallAt
 simp only [mx_eq, mn_eq]
 rw [w64 (x := (b.length : Int) - max 0 (min u (b.length : Int))) (by omega) (by omega), w64 (x := max 0 (min u (b.length : Int)) + min (max keep 0) ((b.length : Int) - max 0 (min u (b.length : Int)))) (by omega) (by omega)]
 rw [if_pos (by omega), if_pos (by omega)]
 unfold slices_Clone_byte_byte.f
 rw [if_pos (by simp; omega)]
 rfl
end Go.Proofs.Ytjnnglphdaemaaa.Q
end

section
-- Written by a program of this session (wip/tools/pp.sh) over the print of the kit.
namespace Go.Proofs.Ytjnnglphdaemaaa.Q
open Go.RowKit Go.Proofs.YtjnnglphdaemaaaW.PrintWords Go.Proofs.YtjnnglphdaemaaaW.PrintLast Go.Proofs.YtjnnglphdaemaaaW.PrintMore
attribute [local go_sem] max2_int min2_int max_two min_two max_three min_three max_four min_four   -- for this text's walks alone
set_option linter.unusedVariables false
set_option linter.unusedSimpArgs false
def laws_sameTexts.l0 : Nat → List ByteArray → List ByteArray → Int → Option (Bool)
 | 0, _, _, _ => none
 | k + 1, x0, x1, x5 => if x5 < (x0.length : Int) then (if 0 ≤ x5 then (if x5 < (x1.length : Int) then (if (rdOf ByteArray.empty x0 x5).toList = (rdOf ByteArray.empty x1 x5).toList then (laws_sameTexts.l0 k x0 x1 (wrap64 (x5 + 1))) else (some false)) else (none)) else (none)) else (some true)
def laws_sameTexts.f (k : Nat) (l0 : List ByteArray) (l1 : List ByteArray) : Option (Bool) := if (l0.length : Int) = (l1.length : Int) then (laws_sameTexts.l0 k l0 l1 0) else (some false)
set_option maxHeartbeats 8000000 in
set_option maxRecDepth 100000 in
theorem laws_sameTexts.calls (k : Nat) (A0 : Option Addr) (c0 : Nat) (l0 : List ByteArray) (A1 : Option Addr) (c1 : Nat) (l1 : List ByteArray) (r : Bool) (w : World) (hr0 : Kd.C Kd.string w A0 l0.length l0) (hc0 : l0.length ≤ c0) (hr1 : Kd.C Kd.string w A1 l1.length l1) (hc1 : l1.length ≤ c1) (h : laws_sameTexts.f k l0 l1 = some r) :
  Calls Try.prog 18 #[.slice A0 l0.length c0, .slice A1 l1.length c1] w fun e w' => e = .returned (.bool r) ∧ Drawn0 w w' := by
 have HR0 := Aside0.mk hr0
 have HC0 := Aside0.mk hc0
 clear hr0 hc0
 have HR1 := Aside0.mk hr1
 have HC1 := Aside0.mk hc1
 clear hr1 hc1
 have H : (if (l0.length : Int) = (l1.length : Int) then (laws_sameTexts.l0 k l0 l1 0) else (some false)) = some r := h
 clear h
 replace H := it_ H; obtain ⟨c3, H⟩ | ⟨c3, H⟩ := H
 ·have c3b0 : ((l0.length : Int) == (l1.length : Int)) = true := beq_iff_eq.mpr c3
  have c3b1 : ((l0.length : Int) != (l1.length : Int)) = false := bne_eq_false_iff_eq.mpr c3
  have c3b2 : (l0.length == l1.length) = true := by first | simpa using c3 | (simp at c3 ⊢; omega)
  clear c3
  have H' := Aside0.mk H
  clear H
  go_enter Try.func18, Try.ntmps18
  go_wp2
  repeat (go_quiet (fail); try go_wp2)
  go_loopg [5] k (fun kq v5 w' => ∃ (x5_1 : Int), v5 = .int .i64 x5_1 ∧ Aside0 (laws_sameTexts.l0 kq l0 l1 x5_1 = some r) ∧ Aside0 (kq ≤ k) ∧ Drawn0 w w')
  case atStart => exact ⟨(0), e1_, H', ⟨Nat.le_refl _⟩, dw_⟩
  case round =>
   clear H'
   try clear c3
   try clear c3b0
   try clear c3b1
   try clear c3b2
   obtain ⟨x5_1, rfl, HA, HK1, ⟨m1, rfl⟩⟩ := hrel
   cases gk with
   | zero => exact absurd HA.out (by simp [laws_sameTexts.l0])
   | succ k1 =>
    have H := HA.out
    clear HA
    simp only [laws_sameTexts.l0] at H
    replace H := itd_ H; obtain ⟨c4b0, H⟩ | ⟨c4b0, H⟩ := H
    ·replace H := ipd_ H; obtain ⟨c5b0, H⟩ := H
     replace H := ipd_ H; obtain ⟨c6b0, H⟩ := H
     replace H := it_ H; obtain ⟨c7, H⟩ | ⟨c7, H⟩ := H
     ·have c7b0 : ((rdOf ByteArray.empty l0 x5_1).toList == (rdOf ByteArray.empty l1 x5_1).toList) = true := beq_iff_eq.mpr c7
      have c7b1 : ((rdOf ByteArray.empty l0 x5_1).toList != (rdOf ByteArray.empty l1 x5_1).toList) = false := bne_eq_false_iff_eq.mpr c7
      clear c7
      have H' := Aside0.mk H
      clear H
      have p601 : 0 ≤ (x5_1 : Int) := of_decide_eq_true as_
      have q601 : x5_1 < (l0.length : Int) := of_decide_eq_true as_
      obtain ⟨ad601, e601, hx601_0⟩ := Kd.at_string HR0.out x5_1 p601 q601
      cases e601
      replace p601 := eq_true p601
      replace q601 := eq_true q601
      have p602 : 0 ≤ (x5_1 : Int) := of_decide_eq_true as_
      have q602 : x5_1 < (l1.length : Int) := of_decide_eq_true as_
      obtain ⟨ad602, e602, hx602_0⟩ := Kd.at_string HR1.out x5_1 p602 q602
      cases e602
      replace p602 := eq_true p602
      replace q602 := eq_true q602
      go_wp2
      repeat (go_quiet (fail); try go_wp2)
      go_roundg k1
      case measure => have := HK1.out; omega
      case rel => exact ⟨(wrap64 (x5_1 + 1)), e1_, H', ⟨by have := HK1.out; omega⟩, dw_⟩
     ·have c7b0 : ((rdOf ByteArray.empty l0 x5_1).toList == (rdOf ByteArray.empty l1 x5_1).toList) = false := beq_eq_false_iff_ne.mpr c7
      have c7b1 : ((rdOf ByteArray.empty l0 x5_1).toList != (rdOf ByteArray.empty l1 x5_1).toList) = true := bne_iff_ne.mpr c7
      obtain rfl := Option.some.inj H
      have p601 : 0 ≤ (x5_1 : Int) := of_decide_eq_true as_
      have q601 : x5_1 < (l0.length : Int) := of_decide_eq_true as_
      obtain ⟨ad601, e601, hx601_0⟩ := Kd.at_string HR0.out x5_1 p601 q601
      cases e601
      replace p601 := eq_true p601
      replace q601 := eq_true q601
      have p602 : 0 ≤ (x5_1 : Int) := of_decide_eq_true as_
      have q602 : x5_1 < (l1.length : Int) := of_decide_eq_true as_
      obtain ⟨ad602, e602, hx602_0⟩ := Kd.at_string HR1.out x5_1 p602 q602
      cases e602
      replace p602 := eq_true p602
      replace q602 := eq_true q602
      go_wp2
      repeat (go_quiet (fail); try go_wp2)
      go_ret
      exact ⟨e1_, dw_⟩
    ·obtain rfl := Option.some.inj H
     go_wp2
     repeat (go_quiet (fail); try go_wp2)
     go_ret
     exact ⟨e1_, dw_⟩
 ·have c3b0 : ((l0.length : Int) == (l1.length : Int)) = false := beq_eq_false_iff_ne.mpr c3
  have c3b1 : ((l0.length : Int) != (l1.length : Int)) = true := bne_iff_ne.mpr c3
  have c3b2 : (l0.length == l1.length) = false := by first | simpa using c3 | (simp at c3 ⊢; omega)
  obtain rfl := Option.some.inj H
  go_enter Try.func18, Try.ntmps18
  go_wp2
  repeat (go_quiet (fail); try go_wp2)
  go_ret
  exact ⟨e1_, dw_⟩
end Go.Proofs.Ytjnnglphdaemaaa.Q
end

section
/- Whether two lists of texts are the same, as the laws tell it. Plain. -/
namespace Go.Proofs.Ytjnnglphdaemaaa.Q
open Go.RowKit Go.Proofs.Ytjnnglphdaemaaa.B Go.Proofs.YtjnnglphdaemaaaW.PrintWords
set_option linter.unusedVariables false
set_option linter.unusedSimpArgs false
theorem nextST {i n : Nat} (h : i < n) (hn : n ≤ 9223372036854775807) : wrap64 ((i : Int) + 1) = ((i + 1 : Nat) : Int) := by
 rw [w64 (by omega) (by omega)]
 omega
theorem laws_same_ev (a b : List ByteArray) (ha : a.length ≤ 9223372036854775807) : Ev (fun k => laws_sameTexts.f k a b) (decide (a = b)) := by
 unfold laws_sameTexts.f
 by_cases hl : a.length = b.length
 ·have main : ∀ (d i : Nat), i + d = a.length → a.take i = b.take i → Ev (fun k => laws_sameTexts.l0 k a b (i : Int)) (decide (a = b)) := by
   intro d
   induction d with
   | zero =>
    intro i hi ht
    rw [List.take_of_length_le (by omega), List.take_of_length_le (by omega)] at ht
    rw [decide_eq_true ht]
    refine Ev.step (fun k => by simp only [laws_sameTexts.l0]; rfl) ?_
    exact Ev.neg (by omega) (Ev.now _)
   | succ d ih =>
    intro i hi ht
    obtain ⟨x, hx⟩ := get_some (l := a) (i := i) (by omega)
    obtain ⟨y, hy⟩ := get_some (l := b) (i := i) (by omega)
    refine Ev.step (fun k => by simp only [laws_sameTexts.l0]; rfl) ?_
    rw [rdOf_at hx, rdOf_at hy, nextST (show i < a.length by omega) ha]
    by_cases h : x.toList = y.toList
    ·have e := bytes_ext h
     subst e
     exact Ev.pos (by omega) (Ev.pos (by omega) (Ev.pos (by omega) (Ev.pos rfl (ih (i + 1) (by omega) (by rw [take_one hx, take_one hy, ht])))))
    ·have hn : ¬ a = b := by
      intro e
      subst e
      rw [hx] at hy
      exact h (by rw [Option.some.inj hy])
     rw [decide_eq_false hn]
     exact Ev.pos (by omega) (Ev.pos (by omega) (Ev.pos (by omega) (Ev.neg h (Ev.now _))))
  exact Ev.pos (by omega) (main a.length 0 (by omega) (by simp))
 ·have hn : ¬ a = b := fun e => hl (by rw [e])
  rw [decide_eq_false hn]
  exact Ev.neg (by omega) (Ev.now _)
end Go.Proofs.Ytjnnglphdaemaaa.Q
end

section
-- Written by a program of this session (wip/tools/pp.sh) over the print of the kit.
namespace Go.Proofs.Ytjnnglphdaemaaa.Q
open Go.RowKit Go.Proofs.YtjnnglphdaemaaaW.PrintWords Go.Proofs.YtjnnglphdaemaaaW.PrintLast Go.Proofs.YtjnnglphdaemaaaW.PrintMore
attribute [local go_sem] max2_int min2_int max_two min_two max_three min_three max_four min_four   -- for this text's walks alone
set_option linter.unusedVariables false
set_option linter.unusedSimpArgs false
def laws_begins.f (k : Nat) (l0 : List ByteArray) (l1 : List ByteArray) : Option (Bool) := if (l0.length : Int) ≤ (l1.length : Int) then (if 0 ≤ (l0.length : Int) then ((laws_sameTexts.f k l0 (l1.take ((l0.length : Int) : Int).toNat)).bind fun t602 => (some t602)) else (none)) else (some false)
set_option maxHeartbeats 8000000 in
set_option maxRecDepth 100000 in
theorem laws_begins.calls (k : Nat) (A0 : Option Addr) (c0 : Nat) (l0 : List ByteArray) (A1 : Option Addr) (c1 : Nat) (l1 : List ByteArray) (r : Bool) (w : World) (hr0 : Kd.C Kd.string w A0 l0.length l0) (hc0 : l0.length ≤ c0) (hr1 : Kd.C Kd.string w A1 l1.length l1) (hc1 : l1.length ≤ c1) (h : laws_begins.f k l0 l1 = some r) :
  Calls Try.prog 43 #[.slice A0 l0.length c0, .slice A1 l1.length c1] w fun e w' => e = .returned (.bool r) ∧ Drawn0 w w' := by
 have HR0 := Aside0.mk hr0
 have HC0 := Aside0.mk hc0
 clear hr0 hc0
 have HR1 := Aside0.mk hr1
 have HC1 := Aside0.mk hc1
 clear hr1 hc1
 have H : (if (l0.length : Int) ≤ (l1.length : Int) then (if 0 ≤ (l0.length : Int) then ((laws_sameTexts.f k l0 (l1.take ((l0.length : Int) : Int).toNat)).bind fun t602 => (some t602)) else (none)) else (some false)) = some r := h
 clear h
 replace H := it_ H; obtain ⟨c3, H⟩ | ⟨c3, H⟩ := H
 ·have c3b0 := decide_eq_true c3
  have c3b1 : decide (l0.length ≤ l1.length) = true := decide_eq_true (Int.ofNat_le.mp c3)
  clear c3
  replace H := ip_ H; obtain ⟨c4, H⟩ := H
  have c4b0 := eq_true c4
  have c4b1 := decide_eq_true c4
  clear c4
  have c5b0 := eq_true (of_decide_eq_true as_ : (l0.length : Int) ≤ (l1.length : Int))
  replace H := bi_ H; obtain ⟨t602, A6, H⟩ := H
  obtain rfl := Option.some.inj H
  obtain ⟨i07, hi07, _, hsz7, _⟩ := info_parts info9
  obtain ⟨hcut7, hA7, hC7⟩ := print_take_of (P := Try.prog) Value.string (⟨#[]⟩ : ByteArray) 24 9 .i64 Try.underlying24 hi07 hsz7 A1 c1 l1 (l0.length : Int) (of_decide_eq_true as_) (of_decide_eq_true as_) HC1.out
  have HR601 := Aside0.mk (Kd.C_of_reads (h1 := fun _ => rfl) (hA7 _ (Kd.reads_of_C HR1.out)))
  have HC601 := Aside0.mk hC7
  clear hA7 hC7 hi07 hsz7
  go_enter Try.func43, Try.ntmps43
  go_wp2_with (first | (go_at_call 18; (rw [show min l0.length l1.length = (l1.take ((l0.length : Int) : Int).toNat).length from by rw [List.length_take, Int.toNat_natCast]]); (with_reducible refine (laws_sameTexts.calls k _ _ l0 _ _ (l1.take ((l0.length : Int) : Int).toNat) t602 _ ?side1 ?side2 ?side3 ?side4 A6.out).mono ?_); (case side1 => exact cr_ HR0.out); (case side2 => exact HC0.out); (case side3 => exact cr_ HR601.out); (case side4 => exact HC601.out); rintro e w' ⟨rfl, ⟨nd, rfl⟩⟩))
  go_ret
  exact ⟨e1_, dw_⟩
 ·have c3b0 := decide_eq_false c3
  have c3b1 : decide (l0.length ≤ l1.length) = false := decide_eq_false (fun h => c3 (Int.ofNat_le.mpr h))
  clear c3
  obtain rfl := Option.some.inj H
  go_enter Try.func43, Try.ntmps43
  go_wp2
  go_ret
  exact ⟨e1_, dw_⟩
end Go.Proofs.Ytjnnglphdaemaaa.Q
end

section
/- Whether texts begin others, as the laws have it. -/
namespace Go.Proofs.Ytjnnglphdaemaaa.Q
open Go.RowKit Go.Proofs.Ytjnnglphdaemaaa.B Go.Proofs.YtjnnglphdaemaaaW.PrintWords
theorem begins_ev (a b : List ByteArray) (ha : (a ++ b).length ≤ 9223372036854775807) : Ev (fun k => laws_begins.f k a (a ++ b)) true := by
 rw [List.length_append] at ha
 unfold laws_begins.f
 refine Ev.pos (by rw [List.length_append]; omega) (Ev.pos (by omega) ?_)
 rw [Int.toNat_natCast, List.take_left]
 have := laws_same_ev a a (by omega)
 rw [decide_eq_true rfl] at this
 exact Ev.bind this (Ev.now _)
end Go.Proofs.Ytjnnglphdaemaaa.Q
end

section
-- Written by a program of this session (wip/tools/pp.sh) over the print of the kit.
namespace Go.Proofs.Ytjnnglphdaemaaa.Q
open Go.RowKit Go.Proofs.YtjnnglphdaemaaaW.PrintWords Go.Proofs.YtjnnglphdaemaaaW.PrintLast Go.Proofs.YtjnnglphdaemaaaW.PrintMore
attribute [local go_sem] max2_int min2_int max_two min_two max_three min_three max_four min_four   -- for this text's walks alone
set_option linter.unusedVariables false
set_option linter.unusedSimpArgs false
end Go.Proofs.Ytjnnglphdaemaaa.Q
end

section
-- Written by a program of this session (wip/tools/pp.sh) over the print of the kit.
namespace Go.Proofs.Ytjnnglphdaemaaa.Q
open Go.RowKit Go.Proofs.YtjnnglphdaemaaaW.PrintWords Go.Proofs.YtjnnglphdaemaaaW.PrintLast Go.Proofs.YtjnnglphdaemaaaW.PrintMore
attribute [local go_sem] max2_int min2_int max_two min_two max_three min_three max_four min_four   -- for this text's walks alone
set_option linter.unusedVariables false
set_option linter.unusedSimpArgs false
def impl_MakeSure.f (k : Nat) (l0_0 : List ByteArray) (a0_1 : Int) (a0_2 : ByteArray) (l0_3 : List Int) (a0_4 : Int) : Option (List ByteArray × Int × ByteArray × List Int × Int) := (impl_copyStore.f l0_0 a0_1 a0_2 l0_3 a0_4).bind fun bt603 => ((impl_StoreOk.f k l0_0 a0_1 a0_2 l0_3 a0_4).bind fun t613 => (if t613 = true then (some (bt603.1, bt603.2.1, bt603.2.2.1, bt603.2.2.2.1, (l0_3.length : Int))) else (some (bt603.1, bt603.2.1, bt603.2.2.1, bt603.2.2.2.1, bt603.2.2.2.2))))
set_option maxHeartbeats 8000000 in
set_option maxRecDepth 100000 in
theorem impl_MakeSure.calls (k : Nat) (A0_0 : Option Addr) (c0_0 : Nat) (l0_0 : List ByteArray) (a0_1 : Int) (a0_2 : ByteArray) (A0_3 : Option Addr) (c0_3 : Nat) (l0_3 : List Int) (a0_4 : Int) (r1 : List ByteArray) (r2 : Int) (r3 : ByteArray) (r4 : List Int) (r5 : Int) (w : World) (hr0_0 : Kd.C Kd.string w A0_0 l0_0.length l0_0) (hc0_0 : l0_0.length ≤ c0_0) (hr0_3 : Kd.C (Kd.int .u8) w A0_3 l0_3.length l0_3) (hc0_3 : l0_3.length ≤ c0_3) (h : impl_MakeSure.f k l0_0 a0_1 a0_2 l0_3 a0_4 = some (r1, r2, r3, r4, r5)) :
  Calls Try.prog 42 #[.agg #[.slice A0_0 l0_0.length c0_0, .int .i64 a0_1, .string a0_2, .slice A0_3 l0_3.length c0_3, .int .i64 a0_4]] w fun e w' => ∃ v0_ v3_ : Value, e = .returned (.agg #[v0_, .int .i64 r2, .string r3, v3_, .int .i64 r5]) ∧ Kd.R Kd.string 9 w' w.heap.size (fun _ => True) v0_ r1 ∧ Kd.R (Kd.int .u8) 5 w' w.heap.size (fun _ => True) v3_ r4 ∧ Below w.heap.size w w' := by
 have hu37 := Try.underlying37
 have HR0_0 := Aside0.mk hr0_0
 have HC0_0 := Aside0.mk hc0_0
 clear hr0_0 hc0_0
 have HR0_3 := Aside0.mk hr0_3
 have HC0_3 := Aside0.mk hc0_3
 clear hr0_3 hc0_3
 have HB := Aside0.mk (Below.refl w.heap.size w)
 have H : ((impl_copyStore.f l0_0 a0_1 a0_2 l0_3 a0_4).bind fun bt603 => ((impl_StoreOk.f k l0_0 a0_1 a0_2 l0_3 a0_4).bind fun t613 => (if t613 = true then (some (bt603.1, bt603.2.1, bt603.2.2.1, bt603.2.2.2.1, (l0_3.length : Int))) else (some (bt603.1, bt603.2.1, bt603.2.2.1, bt603.2.2.2.1, bt603.2.2.2.2))))) = some (r1, r2, r3, r4, r5) := h
 clear h
 replace H := bi_ H; obtain ⟨⟨t603, t606, t607, t608, t611⟩, A2, H⟩ := H
 dsimp only at H
 replace H := bi_ H; obtain ⟨t613, A3, H⟩ := H
 replace H := itb_ H; obtain ⟨rfl, H⟩ | ⟨rfl, H⟩ := H
 ·replace H := so5_ H; obtain ⟨rfl, rfl, rfl, rfl, rfl⟩ := H
  go_enter Try.func42, Try.ntmps42
  go_wp2_with (first | ((with_reducible refine gd_ 1 ?_); refine bx_ 1 37 #[.slice A0_0 l0_0.length c0_0, .int .i64 a0_1, .string a0_2, .slice A0_3 l0_3.length c0_3, .int .i64 a0_4] ?_; intro gb601 hg w5 hbox hb; have BK601 := Aside0.mk hbox; have GW601 := gg_ hg HB; have GE601 := GW601; replace HB := ss_ HB hb; clear hb hbox hg) | ((with_reducible refine gd_ 2 ?_); refine bx_ 2 37 #[.slice none 0 0, .int .i64 0, .string (⟨#[]⟩ : ByteArray), .slice none 0 0, .int .i64 0] ?_; intro gb602 hg w6 hbox hb; have BK602 := Aside0.mk hbox; have GW602 := gg_ hg HB; have GE602 := GW602; replace HB := ss_ HB hb; have NB601_602 := nla_ hg BK601; have NB602_601 := nga_ hg BK601; replace BK601 := kl_ BK601 hb; clear hb hbox hg; have hnb7 := NB601_602.out; have hnc7 := NB602_601.out; have hz8 := cz5_ BK601) | ((with_reducible refine gq_ 65 5 ?_); refine gc_ 5 Try.func65 (impl_copyStore.calls _ _ l0_0 a0_1 a0_2 _ _ l0_3 a0_4 t603 t606 t607 t608 t611 _ (cb_ HR0_0 HB) HC0_0.out (cb_ HR0_3 HB) HC0_3.out A2.out) ?_; rintro e w9 ⟨v604, v609, rfl, ho0, ho1, hb⟩; refine ⟨_, rfl, ?_⟩; have HO605 := Aside0.mk (Kd.R_lower ho0 (sz_ HB)); have HO610 := Aside0.mk (Kd.R_lower ho1 (sz_ HB)); replace BK601 := kl_ BK601 hb; replace BK602 := kl_ BK602 hb; replace HB := ss_ HB hb; clear hb ho0 ho1) | ((with_reducible refine gd_ 3 ?_); refine bx_ 3 37 #[.slice none 0 0, .int .i64 0, .string (⟨#[]⟩ : ByteArray), .slice none 0 0, .int .i64 0] ?_; intro gb612 hg w10 hbox hb; replace HO605 := rb_ HO605 hb; replace HO610 := rb_ HO610 hb; have BK612 := Aside0.mk hbox; have GW612 := gg_ hg HB; have GE612 := GW612; replace HB := ss_ HB hb; have NB601_612 := nla_ hg BK601; have NB612_601 := nga_ hg BK601; replace BK601 := kl_ BK601 hb; have NB602_612 := Aside0.mk ((by rw [hg]; exact Nat.ne_of_lt (blk_lt (kb_ BK602.out)) : gb602 ≠ gb612)); have NB612_602 := Aside0.mk ((by rw [hg]; exact Nat.ne_of_gt (blk_lt (kb_ BK602.out)) : gb612 ≠ gb602)); replace BK602 := kl_ BK602 hb; clear hb hbox hg; obtain ⟨Ao11, co11, eo11⟩ := Kd.R_slice HO605.out; subst eo11; have hnb12 := NB612_601.out; have hnc12 := NB601_612.out; have hnb13 := NB612_602.out; have hnc13 := NB602_612.out; have hz14 := cz5_ BK612; obtain ⟨Ao15, co15, eo15⟩ := Kd.R_slice HO610.out; subst eo15; have hz16 := cz5_ BK601) | ((with_reducible refine gq_ 19 7 ?_); refine gc_ 7 Try.func19 (impl_StoreOk.calls k _ _ l0_0 a0_1 a0_2 _ _ l0_3 a0_4 true _ (Kd.C_below HR0_0.out (bw_ HB)) HC0_0.out (Kd.C_below HR0_3.out (bw_ HB)) HC0_3.out A3.out) ?_; rintro e w17 ⟨rfl, hb⟩; refine ⟨_, rfl, ?_⟩; replace HO605 := rbf_ HO605 BK612 hb; replace HO610 := rbf_ HO610 BK612 hb; replace BK601 := kp_ BK601 hb; replace BK602 := kp_ BK602 hb; replace BK612 := kp_ BK612 hb; replace HB := ss_ HB hb; clear hb; have hz18 := cz5_ BK601; have hz19 := cz5_ BK612; have hz20 := cz5_ BK602))
  refine bodyPost_ret (results_cell_row rfl _ _ gb602 37 #[.slice Ao11 t603.length co11, .int .i64 t606, .string t607, .slice Ao15 t608.length co15, .int .i64 (l0_3.length : Int)] (0, 0) _ rfl (by exact kq_ BK602) Try.underlying37 rfl (by kernel_rfl)) rfl ?_
  exact ⟨_, _, e2_, by (with_reducible repeat (first | apply Kd.R_alloc | apply Kd.R_drewN | apply Kd.R_drew)); exact Kd.R_mono (Kd.R_far (p := ⟨gb602, 4, none⟩) (Kd.R_far (p := ⟨gb602, 3, none⟩) (Kd.R_far (p := ⟨gb602, 2, none⟩) (Kd.R_far (p := ⟨gb602, 1, none⟩) (Kd.R_far (p := ⟨gb602, 0, none⟩) (Kd.R_far (p := ⟨gb612, 4, none⟩) (Kd.R_types (Kd.R_types HO605.out BK612.out (by decide)) BK602.out (by decide)) (fun _ hk => hk.1.2) (.int .i64 (l0_3.length : Int))) (fun _ hk => hk.2) (.slice Ao11 t603.length co11)) (fun _ hk => hk.2) (.int .i64 t606)) (fun _ hk => hk.2) (.string t607)) (fun _ hk => hk.2) (.slice Ao15 t608.length co15)) (fun _ hk => hk.2) (.int .i64 (l0_3.length : Int))) (fun _ hk => trivial), by (with_reducible repeat (first | apply Kd.R_alloc | apply Kd.R_drewN | apply Kd.R_drew)); exact Kd.R_mono (Kd.R_far (p := ⟨gb602, 4, none⟩) (Kd.R_far (p := ⟨gb602, 3, none⟩) (Kd.R_far (p := ⟨gb602, 2, none⟩) (Kd.R_far (p := ⟨gb602, 1, none⟩) (Kd.R_far (p := ⟨gb602, 0, none⟩) (Kd.R_far (p := ⟨gb612, 4, none⟩) (Kd.R_types (Kd.R_types HO610.out BK612.out (by decide)) BK602.out (by decide)) (fun _ hk => hk.1.2) (.int .i64 (l0_3.length : Int))) (fun _ hk => hk.2) (.slice Ao11 t603.length co11)) (fun _ hk => hk.2) (.int .i64 t606)) (fun _ hk => hk.2) (.string t607)) (fun _ hk => hk.2) (.slice Ao15 t608.length co15)) (fun _ hk => hk.2) (.int .i64 (l0_3.length : Int))) (fun _ hk => trivial), bw_ HB⟩
 ·replace H := so5_ H; obtain ⟨rfl, rfl, rfl, rfl, rfl⟩ := H
  go_enter Try.func42, Try.ntmps42
  go_wp2_with (first | ((with_reducible refine gd_ 1 ?_); refine bx_ 1 37 #[.slice A0_0 l0_0.length c0_0, .int .i64 a0_1, .string a0_2, .slice A0_3 l0_3.length c0_3, .int .i64 a0_4] ?_; intro gb601 hg w21 hbox hb; have BK601 := Aside0.mk hbox; have GW601 := gg_ hg HB; have GE601 := GW601; replace HB := ss_ HB hb; clear hb hbox hg) | ((with_reducible refine gd_ 2 ?_); refine bx_ 2 37 #[.slice none 0 0, .int .i64 0, .string (⟨#[]⟩ : ByteArray), .slice none 0 0, .int .i64 0] ?_; intro gb602 hg w22 hbox hb; have BK602 := Aside0.mk hbox; have GW602 := gg_ hg HB; have GE602 := GW602; replace HB := ss_ HB hb; have NB601_602 := nla_ hg BK601; have NB602_601 := nga_ hg BK601; replace BK601 := kl_ BK601 hb; clear hb hbox hg; have hnb23 := NB601_602.out; have hnc23 := NB602_601.out; have hz24 := cz5_ BK601) | ((with_reducible refine gq_ 65 5 ?_); refine gc_ 5 Try.func65 (impl_copyStore.calls _ _ l0_0 a0_1 a0_2 _ _ l0_3 a0_4 t603 t606 t607 t608 t611 _ (cb_ HR0_0 HB) HC0_0.out (cb_ HR0_3 HB) HC0_3.out A2.out) ?_; rintro e w25 ⟨v604, v609, rfl, ho0, ho1, hb⟩; refine ⟨_, rfl, ?_⟩; have HO605 := Aside0.mk (Kd.R_lower ho0 (sz_ HB)); have HO610 := Aside0.mk (Kd.R_lower ho1 (sz_ HB)); replace BK601 := kl_ BK601 hb; replace BK602 := kl_ BK602 hb; replace HB := ss_ HB hb; clear hb ho0 ho1) | ((with_reducible refine gd_ 3 ?_); refine bx_ 3 37 #[.slice none 0 0, .int .i64 0, .string (⟨#[]⟩ : ByteArray), .slice none 0 0, .int .i64 0] ?_; intro gb612 hg w26 hbox hb; replace HO605 := rb_ HO605 hb; replace HO610 := rb_ HO610 hb; have BK612 := Aside0.mk hbox; have GW612 := gg_ hg HB; have GE612 := GW612; replace HB := ss_ HB hb; have NB601_612 := nla_ hg BK601; have NB612_601 := nga_ hg BK601; replace BK601 := kl_ BK601 hb; have NB602_612 := Aside0.mk ((by rw [hg]; exact Nat.ne_of_lt (blk_lt (kb_ BK602.out)) : gb602 ≠ gb612)); have NB612_602 := Aside0.mk ((by rw [hg]; exact Nat.ne_of_gt (blk_lt (kb_ BK602.out)) : gb612 ≠ gb602)); replace BK602 := kl_ BK602 hb; clear hb hbox hg; obtain ⟨Ao27, co27, eo27⟩ := Kd.R_slice HO605.out; subst eo27; have hnb28 := NB612_601.out; have hnc28 := NB601_612.out; have hnb29 := NB612_602.out; have hnc29 := NB602_612.out; have hz30 := cz5_ BK612; obtain ⟨Ao31, co31, eo31⟩ := Kd.R_slice HO610.out; subst eo31; have hz32 := cz5_ BK601) | ((with_reducible refine gq_ 19 7 ?_); refine gc_ 7 Try.func19 (impl_StoreOk.calls k _ _ l0_0 a0_1 a0_2 _ _ l0_3 a0_4 false _ (Kd.C_below HR0_0.out (bw_ HB)) HC0_0.out (Kd.C_below HR0_3.out (bw_ HB)) HC0_3.out A3.out) ?_; rintro e w33 ⟨rfl, hb⟩; refine ⟨_, rfl, ?_⟩; replace HO605 := rbf_ HO605 BK612 hb; replace HO610 := rbf_ HO610 BK612 hb; replace BK601 := kp_ BK601 hb; replace BK602 := kp_ BK602 hb; replace BK612 := kp_ BK612 hb; replace HB := ss_ HB hb; clear hb; have hz34 := cz5_ BK612; have hz35 := cz5_ BK602))
  refine bodyPost_ret (results_cell_row rfl _ _ gb602 37 #[.slice Ao27 t603.length co27, .int .i64 t606, .string t607, .slice Ao31 t608.length co31, .int .i64 t611] (0, 0) _ rfl (by exact kq_ BK602) Try.underlying37 rfl (by kernel_rfl)) rfl ?_
  exact ⟨_, _, e2_, by (with_reducible repeat (first | apply Kd.R_alloc | apply Kd.R_drewN | apply Kd.R_drew)); exact Kd.R_mono (Kd.R_far (p := ⟨gb602, 4, none⟩) (Kd.R_far (p := ⟨gb602, 3, none⟩) (Kd.R_far (p := ⟨gb602, 2, none⟩) (Kd.R_far (p := ⟨gb602, 1, none⟩) (Kd.R_far (p := ⟨gb602, 0, none⟩) (Kd.R_types HO605.out BK602.out (by decide)) (fun _ hk => hk.2) (.slice Ao27 t603.length co27)) (fun _ hk => hk.2) (.int .i64 t606)) (fun _ hk => hk.2) (.string t607)) (fun _ hk => hk.2) (.slice Ao31 t608.length co31)) (fun _ hk => hk.2) (.int .i64 t611)) (fun _ hk => trivial), by (with_reducible repeat (first | apply Kd.R_alloc | apply Kd.R_drewN | apply Kd.R_drew)); exact Kd.R_mono (Kd.R_far (p := ⟨gb602, 4, none⟩) (Kd.R_far (p := ⟨gb602, 3, none⟩) (Kd.R_far (p := ⟨gb602, 2, none⟩) (Kd.R_far (p := ⟨gb602, 1, none⟩) (Kd.R_far (p := ⟨gb602, 0, none⟩) (Kd.R_types HO610.out BK602.out (by decide)) (fun _ hk => hk.2) (.slice Ao27 t603.length co27)) (fun _ hk => hk.2) (.int .i64 t606)) (fun _ hk => hk.2) (.string t607)) (fun _ hk => hk.2) (.slice Ao31 t608.length co31)) (fun _ hk => hk.2) (.int .i64 t611)) (fun _ hk => trivial), bw_ HB⟩
end Go.Proofs.Ytjnnglphdaemaaa.Q
end

section
/- MakeSure, the program's and the reference's: they return the same. -/
namespace Go.Proofs.Ytjnnglphdaemaaa.Q
open Go.RowKit Go.Proofs.Ytjnnglphdaemaaa.B Go.Proofs.YtjnnglphdaemaaaW.PrintWords
end Go.Proofs.Ytjnnglphdaemaaa.Q
end

section
-- Written by a program of this session (wip/tools/pp.sh) over the print of the kit.
namespace Go.Proofs.Ytjnnglphdaemaaa.Q
open Go.RowKit Go.Proofs.YtjnnglphdaemaaaW.PrintWords Go.Proofs.YtjnnglphdaemaaaW.PrintLast Go.Proofs.YtjnnglphdaemaaaW.PrintMore
attribute [local go_sem] max2_int min2_int max_two min_two max_three min_three max_four min_four   -- for this text's walks alone
set_option linter.unusedVariables false
set_option linter.unusedSimpArgs false
def laws_big.f (l0 : List Int) : Option (Bool) := some (decide ((l0.length : Int) > 1048576))
set_option maxHeartbeats 8000000 in
set_option maxRecDepth 100000 in
theorem laws_big.calls (A0 : Option Addr) (c0 : Nat) (l0 : List Int) (r : Bool) (w : World) (hr0 : Kd.C (Kd.int .u8) w A0 l0.length l0) (hc0 : l0.length ≤ c0) (h : laws_big.f l0 = some r) :
  Calls Try.prog 10 #[.slice A0 l0.length c0] w fun e w' => e = .returned (.bool r) ∧ Drawn0 w w' := by
 have HR0 := Aside0.mk hr0
 have HC0 := Aside0.mk hc0
 clear hr0 hc0
 have H : (some (decide ((l0.length : Int) > 1048576))) = some r := h
 clear h
 obtain rfl := Option.some.inj H
 go_enter Try.func10, Try.ntmps10
 go_wp2
 go_ret
 exact ⟨e1_, dw_⟩
end Go.Proofs.Ytjnnglphdaemaaa.Q
end

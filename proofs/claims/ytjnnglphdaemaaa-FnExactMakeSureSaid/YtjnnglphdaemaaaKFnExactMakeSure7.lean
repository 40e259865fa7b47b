-- Joined and shortened by a program of this session (wip/tools/shakecopy.py): the words of the print, texts of pp.sh and of mine.
import Derived.Test.YtjnnglphdaemaaaKFnExactMakeSure6
import Derived.Deep.Slices
import Derived.ChangeArms
import Derived.Test.YtjnnglphdaemaaaRows
import Derived.WalkKit
import Derived.ProofKit
import Derived.OpenShut
import Derived.ShutString
import Derived.ChangeOld
import Derived.Below
import Derived.SizedLaws
import Derived.Carry
section
-- Written by a program of this session (wip/tools/pp.sh) over the print of the kit.
namespace Go.Proofs.Ytjnnglphdaemaaa.Q
open Go.RowKit Go.Proofs.YtjnnglphdaemaaaW.PrintWords Go.Proofs.YtjnnglphdaemaaaW.PrintLast Go.Proofs.YtjnnglphdaemaaaW.PrintMore
attribute [local go_sem] max2_int min2_int max_two min_two max_three min_three max_four min_four   -- for this text's walks alone
set_option linter.unusedVariables false
set_option linter.unusedSimpArgs false
attribute [local go_sem high] eqA28
mutual
def spec_l12Replay.l0 : Nat → List Int → Int → List ByteArray → Int → ByteArray → Option (List ByteArray × Int × ByteArray × Bool)
 | 0, _, _, _, _, _ => none
 | k + 1, x0, x5, x608000, x608001, x608002 => if x5 < (x0.length : Int) then ((spec_GetCommit.f k x0 x5).bind fun bt608 => (if bt608.2.2.2.2 = true then (spec_l12Replay.j1 k x0 bt608.2.2.1 bt608.2.2.2.1 (decide ((wrap64 ((x608000.length : Int) + (bt608.2.2.1.length : Int))) > 200)) x608000 x608001 x608002 bt608.1 bt608.2.1) else (spec_l12Replay.j1 k x0 bt608.2.2.1 bt608.2.2.2.1 true x608000 x608001 x608002 bt608.1 bt608.2.1))) else (some (x608000, x608001, x608002, true))
def spec_l12Replay.j1 : Nat → List Int → List ByteArray → Int → Bool → List ByteArray → Int → ByteArray → Int → ByteArray → Option (List ByteArray × Int × ByteArray × Bool)
 | 0, _, _, _, _, _, _, _, _, _ => none
 | k + 1, x0, x7, x8, x33, x608000, x608001, x608002, x616000, x616001 => if x33 = true then (some (x608000, x608001, x608002, false)) else (if x608000.length + x7.length < 8796093022208 then ((some (x608000 ++ x7 : List ByteArray)).bind fun y616 => ((spec_HeadOf.f k y616).bind fun bt619 => (if (!(x616000 == bt619.1) || (!(x616001.toList == bt619.2.toList))) = true then (some (y616, x616000, x616001, false)) else (spec_l12Replay.l0 k x0 x8 y616 x616000 x616001)))) else (none))
end
def spec_l12Replay.f (k : Nat) (l0 : List Int) : Option (List ByteArray × Int × ByteArray × Bool) := (spec_LogNew.f k).bind fun bt602 => (spec_l12Replay.l0 k l0 0 bt602.1 bt602.2.1 bt602.2.2)
theorem spec_l12Replay.mono_l : ∀ k, (∀ y0 y1 y2 y3 y4, LeO (spec_l12Replay.l0 k y0 y1 y2 y3 y4) (spec_l12Replay.l0 (k + 1) y0 y1 y2 y3 y4)) ∧ (∀ y0 y1 y2 y3 y4 y5 y6 y7 y8, LeO (spec_l12Replay.j1 k y0 y1 y2 y3 y4 y5 y6 y7 y8) (spec_l12Replay.j1 (k + 1) y0 y1 y2 y3 y4 y5 y6 y7 y8))
 | 0 => ⟨fun _ _ _ _ _ r h => by simp [spec_l12Replay.l0] at h, fun _ _ _ _ _ _ _ _ _ r h => by simp [spec_l12Replay.j1] at h⟩
 | k + 1 => by
  obtain ⟨ih0, ih1⟩ := spec_l12Replay.mono_l k
  refine ⟨?_, ?_⟩
  ·intro y0 y1 y2 y3 y4
   unfold spec_l12Replay.l0
   repeat' (with_reducible first | exact LeO.refl _ | exact LeO.none _ | apply ih0 | apply ih1 | apply spec_GetCommit.mono | apply spec_HeadOf.mono | apply spec_LogNew.mono | apply LeO.ite | refine LeO.bind ?_ fun _ => ?_)
  ·intro y0 y1 y2 y3 y4 y5 y6 y7 y8
   unfold spec_l12Replay.j1
   repeat' (with_reducible first | exact LeO.refl _ | exact LeO.none _ | apply ih0 | apply ih1 | apply spec_GetCommit.mono | apply spec_HeadOf.mono | apply spec_LogNew.mono | apply LeO.ite | refine LeO.bind ?_ fun _ => ?_)
theorem spec_l12Replay.mono : ∀ a0 k, LeO (spec_l12Replay.f k a0) (spec_l12Replay.f (k + 1) a0) := by
 intro a0 k
 obtain ⟨ih0, ih1⟩ := spec_l12Replay.mono_l k
 unfold spec_l12Replay.f
 repeat' (with_reducible first | exact LeO.refl _ | exact LeO.none _ | apply ih0 | apply ih1 | apply spec_GetCommit.mono | apply spec_HeadOf.mono | apply spec_LogNew.mono | apply LeO.ite | refine LeO.bind ?_ fun _ => ?_)
set_option maxHeartbeats 8000000 in
set_option maxRecDepth 100000 in
theorem spec_l12Replay.calls (k : Nat) (A0 : Option Addr) (c0 : Nat) (l0 : List Int) (r1 : List ByteArray) (r2 : Int) (r3 : ByteArray) (r4 : Bool) (w : World) (hr0 : Kd.C (Kd.int .u8) w A0 l0.length l0) (hc0 : l0.length ≤ c0) (h : spec_l12Replay.f k l0 = some (r1, r2, r3, r4)) :
  Calls Try.prog 116 #[.slice A0 l0.length c0] w fun e w' => ∃ v0_ : Value, e = .returned (.tuple #[.agg #[v0_, .int .i64 r2, .string r3], .bool r4]) ∧ Kd.R Kd.string 9 w' w.heap.size (fun _ => True) v0_ r1 ∧ Below w.heap.size w w' := by
 have hu31 := Try.underlying31
 have hu28 := Try.underlying28
 have HR0 := Aside0.mk hr0
 have HC0 := Aside0.mk hc0
 clear hr0 hc0
 have HB := Aside0.mk (Below.refl w.heap.size w)
 have H : ((spec_LogNew.f k).bind fun bt602 => (spec_l12Replay.l0 k l0 0 bt602.1 bt602.2.1 bt602.2.2)) = some (r1, r2, r3, r4) := h
 clear h
 replace H := bi_ H; obtain ⟨⟨t602, t605, t606⟩, A2, H⟩ := H
 dsimp only at H
 have H' := Aside0.mk H
 clear H
 go_enter Try.func116, Try.ntmps116
 go_wp2_with (first | ((with_reducible refine gd_ 2 ?_); (try (refine gate_guard (by rfl) ?_; dsimp only)); refine bx_ 2 31 #[.slice none 0 0, .int .i64 0, .string (⟨#[]⟩ : ByteArray)] ?_; intro gb601 hg w3 hbox hb; have BK601 := Aside0.mk hbox; have GW601 := gg_ hg HB; have GE601 := GW601; replace HB := ss_ HB hb; clear hb hbox hg) | ((with_reducible refine gq_ 118 10 ?_); refine gc_ 10 Try.func118 (spec_LogNew.calls k  t602 t605 t606 _ A2.out) ?_; rintro e w4 ⟨v603, rfl, ho0, hb⟩; refine ⟨_, rfl, ?_⟩; have HO604 := Aside0.mk (Kd.R_lower ho0 (sz_ HB)); replace BK601 := kl_ BK601 hb; replace HB := ss_ HB hb; clear hb ho0) | ((with_reducible refine gd_ 4 ?_); (try (refine gate_guard (by rfl) ?_; dsimp only)); refine bx_ 4 31 #[.slice none 0 0, .int .i64 0, .string (⟨#[]⟩ : ByteArray)] ?_; intro gb607 hg w5 hbox hb; replace HO604 := rb_ HO604 hb; have BK607 := Aside0.mk hbox; have GW607 := gg_ hg HB; have GE607 := GW607; replace HB := ss_ HB hb; have NB601_607 := Aside0.mk ((by rw [hg]; exact Nat.ne_of_lt (blk_lt (kb_ BK601.out)) : gb601 ≠ gb607)); have NB607_601 := Aside0.mk ((by rw [hg]; exact Nat.ne_of_gt (blk_lt (kb_ BK601.out)) : gb607 ≠ gb601)); replace BK601 := kl_ BK601 hb; clear hb hbox hg; obtain ⟨Ao6, co6, eo6⟩ := Kd.R_slice HO604.out; subst eo6; have hnb7 := NB607_601.out; have hnc7 := NB601_607.out; have hz8 := cz3_ BK607))
 go_loopg [5] k (fun kq v5 w' => ∃ (x5_1 : Int) (x602001_1 : Int) (x602002_1 : ByteArray) (x608000_1 : List ByteArray) (x608001_1 : Int) (x608002_1 : ByteArray) (u608000 : Value), v5 = .int .i64 x5_1 ∧ Aside0 (spec_l12Replay.l0 kq l0 x5_1 x608000_1 x608001_1 x608002_1 = some (r1, r2, r3, r4)) ∧ Aside0 (kq ≤ k) ∧ Aside0 (Kd.R Kd.string 9 w' w.heap.size (fun _ => True) u608000 x608000_1) ∧ Aside0 (w'.heap[gb601]? = some (.cells #[(.slice none 0 0), .int .i64 x602001_1, .string x602002_1] 31 (0, 0))) ∧ Aside0 (w'.heap[gb607]? = some (.cells #[u608000, .int .i64 x608001_1, .string x608002_1] 31 (0, 0))) ∧ Aside0 (Below w.heap.size w w'))
 case atStart => exact ⟨(0), (0), ((⟨#[]⟩ : ByteArray)), (t602), (t605), (t606), (.slice Ao6 t602.length co6), e1_, H', ⟨Nat.le_refl _⟩, ⟨by (with_reducible repeat (first | apply Kd.R_alloc | apply Kd.R_drewN | apply Kd.R_drew)); exact Kd.R_mono (Kd.R_far (p := ⟨gb607, 2, none⟩) (Kd.R_far (p := ⟨gb607, 1, none⟩) (Kd.R_far (p := ⟨gb607, 0, none⟩) (Kd.R_types HO604.out BK607.out (by decide)) (fun _ hk => hk.2) (.slice Ao6 t602.length co6)) (fun _ hk => hk.2) (.int .i64 t605)) (fun _ hk => hk.2) (.string t606)) (fun _ hk => trivial)⟩, ⟨kq_ BK601⟩, ⟨kq_ BK607⟩, ⟨bw_ HB⟩⟩
 case round =>
  clear H'
  try clear hz8
  obtain ⟨x5_1, x602001_1, x602002_1, x608000_1, x608001_1, x608002_1, u608000, rfl, HA, HK1, HO_608000, BK601, BK607, HB⟩ := hrel
  cases gk with
  | zero => exact absurd HA.out (by simp [spec_l12Replay.l0])
  | succ k1 =>
   have H := HA.out
   clear HA
   simp only [spec_l12Replay.l0] at H
   replace H := itd_ H; obtain ⟨c9b0, H⟩ | ⟨c9b0, H⟩ := H
   ·replace H := bi_ H; obtain ⟨⟨t608, t609, t610, t613, t614⟩, A10, H⟩ := H
    dsimp only at H
    have HC11 := Aside0.mk H
    clear H
    go_upto_region 5 with (first | ((with_reducible refine gq_ 96 18 ?_); refine gc_ 18 Try.func96 (spec_GetCommit.calls k1 _ _ l0 x5_1 t608 t609 t610 t613 t614 _ (cb_ HR0 HB) HC0.out A10.out) ?_; rintro e w12 ⟨v611, rfl, ho0, hb⟩; refine ⟨_, rfl, ?_⟩; have HO612 := Aside0.mk (Kd.R_lower (Kd.R_new' ho0 (lt_ HO_608000)) (sz_ HB)); replace HO_608000 := re_ HO_608000 ho0 hb; replace BK601 := kl_ BK601 hb; replace BK607 := kl_ BK607 hb; replace HB := ss_ HB hb; clear hb ho0) | ((with_reducible refine gd_ 6 ?_); (try (refine gate_guard (by rfl) ?_; dsimp only)); refine bx_ 6 28 #[.int .i64 0, .string (⟨#[]⟩ : ByteArray)] ?_; intro gb615 hg w13 hbox hb; replace HO_608000 := rb_ HO_608000 hb; replace HO612 := rb_ HO612 hb; have BK615 := Aside0.mk hbox; have GW615 := gg_ hg HB; have GE615 := GW615; replace HB := ss_ HB hb; have NB601_615 := nla_ hg BK601; have NB615_601 := nga_ hg BK601; replace BK601 := kl_ BK601 hb; have NB607_615 := nla_ hg BK607; have NB615_607 := nga_ hg BK607; replace BK607 := kl_ BK607 hb; clear hb hbox hg; have hnb14 := NB615_601.out; have hnc14 := NB601_615.out; have hnb15 := NB615_607.out; have hnc15 := NB607_615.out; have hz16 := cz2_ BK615))
    (try simp only [Act.put, List.setIfInBounds_toArray, List.set_cons_zero, List.set_cons_succ])
    go_cut [33] (fun v33 wc => ∃ (kq : Nat) (x33_10 : Bool), v33 = .bool x33_10 ∧ Aside0 (spec_l12Replay.j1 kq l0 t610 t613 x33_10 x608000_1 x608001_1 x608002_1 t608 t609 = some (r1, r2, r3, r4)) ∧ Aside0 (kq ≤ k1) ∧ Aside0 (Kd.R Kd.string 9 wc w.heap.size (fun k_ => some k_ ≠ (u608000 : Value).ownBlock) v611 t610) ∧ Aside0 (Kd.R Kd.string 9 wc w.heap.size (fun k_ => some k_ ≠ (v611 : Value).ownBlock) u608000 x608000_1) ∧ Aside0 (wc.heap[gb601]? = some (.cells #[(.slice none 0 0), .int .i64 x602001_1, .string x602002_1] 31 (0, 0))) ∧ Aside0 (wc.heap[gb607]? = some (.cells #[u608000, .int .i64 x608001_1, .string x608002_1] 31 (0, 0))) ∧ Aside0 (wc.heap[gb615]? = some (.cells #[.int .i64 t608, .string t609] 28 (0, 0))) ∧ Aside0 (Below w.heap.size w wc))
    case first =>
     have H := HC11.out
     clear HC11
     replace H := itb_ H; obtain ⟨rfl, H⟩ | ⟨rfl, H⟩ := H
     ·have H' := Aside0.mk H
      clear H
      have hnb18 := NB607_601.out
      have hnc18 := NB601_607.out
      have hnb19 := NB607_615.out
      have hnc19 := NB615_607.out
      have hz20 := cz3_ BK607
      obtain ⟨Ao21, co21, eo21⟩ := Kd.R_slice HO_608000.out
      subst eo21
      obtain ⟨Ao22, co22, eo22⟩ := Kd.R_slice HO612.out
      subst eo22
      go_wp2
      go_meet
      case rel => exact ⟨_, (decide ((wrap64 ((x608000_1.length : Int) + (t610.length : Int))) > 200)), e1_, H', ⟨by have := HK1.out; first | omega | exact Nat.le_refl _⟩, ⟨by (with_reducible repeat (first | apply Kd.R_alloc | apply Kd.R_drewN | apply Kd.R_drew)); exact Kd.R_mono (Kd.R_far (p := ⟨gb615, 1, none⟩) (Kd.R_far (p := ⟨gb615, 0, none⟩) (Kd.R_types HO612.out BK615.out (by decide)) (fun _ hk => hk.2) (.int .i64 t608)) (fun _ hk => hk.2) (.string t609)) (fun _ hk => hk.1.2)⟩, ⟨by (with_reducible repeat (first | apply Kd.R_alloc | apply Kd.R_drewN | apply Kd.R_drew)); exact Kd.R_mono (Kd.R_far (p := ⟨gb615, 1, none⟩) (Kd.R_far (p := ⟨gb615, 0, none⟩) (Kd.R_types HO_608000.out BK615.out (by decide)) (fun _ hk => hk.2) (.int .i64 t608)) (fun _ hk => hk.2) (.string t609)) (fun _ hk => hk.1.2)⟩, ⟨kq_ BK601⟩, ⟨kq_ BK607⟩, ⟨kq_ BK615⟩, ⟨bw_ HB⟩⟩
     ·have H' := Aside0.mk H
      clear H
      go_wp2
      go_meet
      case rel => exact ⟨_, (true), e1_, H', ⟨by have := HK1.out; first | omega | exact Nat.le_refl _⟩, ⟨by (with_reducible repeat (first | apply Kd.R_alloc | apply Kd.R_drewN | apply Kd.R_drew)); exact Kd.R_mono (Kd.R_far (p := ⟨gb615, 1, none⟩) (Kd.R_far (p := ⟨gb615, 0, none⟩) (Kd.R_types HO612.out BK615.out (by decide)) (fun _ hk => hk.2) (.int .i64 t608)) (fun _ hk => hk.2) (.string t609)) (fun _ hk => hk.1.2)⟩, ⟨by (with_reducible repeat (first | apply Kd.R_alloc | apply Kd.R_drewN | apply Kd.R_drew)); exact Kd.R_mono (Kd.R_far (p := ⟨gb615, 1, none⟩) (Kd.R_far (p := ⟨gb615, 0, none⟩) (Kd.R_types HO_608000.out BK615.out (by decide)) (fun _ hk => hk.2) (.int .i64 t608)) (fun _ hk => hk.2) (.string t609)) (fun _ hk => hk.1.2)⟩, ⟨kq_ BK601⟩, ⟨kq_ BK607⟩, ⟨kq_ BK615⟩, ⟨bw_ HB⟩⟩
    case rest =>
     clear HC11
     try clear c1
     try clear p2
     try clear c7
     try clear c9b0
     try clear hz16
     try clear hz8
     obtain ⟨kq, x33_10, rfl, HA, HJ10, HO_7, HO_608000, BK601, BK607, BK615, HB⟩ := hcut
     cases kq with
     | zero => exact absurd HA.out (by simp [spec_l12Replay.j1])
     | succ kj10 =>
      have H := HA.out
      clear HA
      simp only [spec_l12Replay.j1] at H
      replace H := itb_ H; obtain ⟨rfl, H⟩ | ⟨rfl, H⟩ := H
      ·replace H := so4_ H; obtain ⟨rfl, rfl, rfl, rfl⟩ := H
       have hnb24 := NB607_601.out
       have hnc24 := NB601_607.out
       have hnb25 := NB607_615.out
       have hnc25 := NB615_607.out
       have hz26 := cz3_ BK607
       obtain ⟨Ao27, co27, eo27⟩ := Kd.R_slice HO_608000.out
       subst eo27
       have hnb28 := NB601_615.out
       have hnc28 := NB615_601.out
       have hz29 := cz3_ BK601
       go_wp2
       refine bodyPost_ret (results_ct rfl _ _ gb601 31 #[.slice Ao27 x608000_1.length co27, .int .i64 x608001_1, .string x608002_1] (0, 0) _ rfl (by exact kq_ BK601) Try.underlying31 rfl (by kernel_rfl)) rfl ?_
       exact ⟨_, e2_, by (with_reducible repeat (first | apply Kd.R_alloc | apply Kd.R_drewN | apply Kd.R_drew)); exact Kd.R_mono (Kd.R_far (p := ⟨gb601, 2, none⟩) (Kd.R_far (p := ⟨gb601, 1, none⟩) (Kd.R_far (p := ⟨gb601, 0, none⟩) (Kd.R_types HO_608000.out BK601.out (by decide)) (fun _ hk => hk.2) (.slice Ao27 x608000_1.length co27)) (fun _ hk => hk.2) (.int .i64 x608001_1)) (fun _ hk => hk.2) (.string x608002_1)) (fun _ hk => trivial), bw_ HB⟩
      ·replace H := ip_ H; obtain ⟨c30, H⟩ := H
       have LMc30 := Aside0.mk c30
       clear c30
       obtain ⟨y616, Ny616, H⟩ := sb_ (x608000_1 ++ t610) H
       replace H := bi_ H; obtain ⟨⟨t619, t620⟩, A31, H⟩ := H
       dsimp only at H
       replace H := it_ H; obtain ⟨c32, H⟩ | ⟨c32, H⟩ := H
       ·have c32b0 : (!(t608 == t619) || (!(t609.toList == t620.toList))) = true := c32
        clear c32
        replace H := so4_ H; obtain ⟨rfl, rfl, rfl, rfl⟩ := H
        have hnb33 := NB607_601.out
        have hnc33 := NB601_607.out
        have hnb34 := NB607_615.out
        have hnc34 := NB615_607.out
        have hz35 := cz3_ BK607
        obtain ⟨Ao37, co37, eo37⟩ := Kd.R_slice HO_7.out
        subst eo37
        try go_wp2_with (first | ((with_reducible refine gate_builtin (b := .append) (xs := #[.tmp 36, .tmp 37]) rfl ?_); (try (refine gate_guard (by rfl) ?_; dsimp only)); at_builtin; refine Kd.R_append_rows Kd.string (w0 := w) w.heap.size rfl (.tmp 36) (.tmp 37) 24 9 (.string ⟨#[]⟩) 16 rfl Try.underlying24 info9 rfl (by decide) (by omega) u608000 x608000_1 t610 _ _ _ (fun k_ => some k_ ≠ (.slice Ao37 t610.length co37 : Value).ownBlock) (fun _ => False) rfl rfl ?aO ?aR (fun _ _ h => h) (fun _ h => h.elim) ?aF ?aB ?aS ?aL ?_; (case aR => repeat (first | exact (Kd.R_reads' HO_7.out).2.2 | (with_reducible refine Kd.C_alloc ?_ _) | (with_reducible refine Kd.C_drewN ?_ _) | (with_reducible refine Kd.C_drew ?_))); (case aB => exact (bw_ HB)); (case aF => exact (fun k_ hk => Kd.fresh' (lt_ HO_7) k_ hk)); (case aO => exact (kr_ HO_608000.out)); (case aS => exact (sz_ HB)); (case aL => have := LMc30.out; omega); intro v617 w36 ho hb hg hat; rw [← Ny616.out] at ho; replace HO_7 := Aside0.mk (Kd.R_after (ok := (fun _ => True)) (kr_ (Kd.R_mono HO_7.out (fun _ hk => ⟨trivial, hk⟩))) hg hat); replace BK601 := kg_ BK601 HO_608000 hg; replace BK607 := kg_ BK607 HO_608000 hg; replace BK615 := kg_ BK615 HO_608000 hg; replace HB := Aside0.mk hb; have HO618 := Aside0.mk ho; clear HO_608000; clear ho hb hg hat; obtain ⟨Ao38, co38, eo38⟩ := Kd.R_slice HO618.out; subst eo38; have hz39 := cz3_ BK607; have hnb40 := NB615_601.out; have hnc40 := NB601_615.out; have hz41 := cz2_ BK615))
        have n0_ : Aside0 (Kd.R Kd.string 9 (((w36.setCell ⟨gb607, 0, none⟩ (.slice Ao38 y616.length co38)).setCell ⟨gb607, 1, none⟩ (.int .i64 t608)).setCell ⟨gb607, 2, none⟩ (.string t609)) w.heap.size (fun k_ => some k_ ≠ (.slice Ao38 y616.length co38 : Value).ownBlock) (.slice Ao37 t610.length co37) t610) := ⟨by (with_reducible repeat (first | apply Kd.R_alloc | apply Kd.R_drewN | apply Kd.R_drew)); exact Kd.R_mono (Kd.R_far (p := ⟨gb607, 2, none⟩) (Kd.R_far (p := ⟨gb607, 1, none⟩) (Kd.R_far (p := ⟨gb607, 0, none⟩) (Kd.R_types HO_7.out BK607.out (by decide)) (fun _ hk => hk.2) (.slice Ao38 y616.length co38)) (fun _ hk => hk.2) (.int .i64 t608)) (fun _ hk => hk.2) (.string t609)) (fun _ hk => hk.1.2)⟩
        have n1_ : Aside0 (Kd.R Kd.string 9 (((w36.setCell ⟨gb607, 0, none⟩ (.slice Ao38 y616.length co38)).setCell ⟨gb607, 1, none⟩ (.int .i64 t608)).setCell ⟨gb607, 2, none⟩ (.string t609)) w.heap.size (fun k_ => some k_ ≠ (.slice Ao37 t610.length co37 : Value).ownBlock) (.slice Ao38 y616.length co38) y616) := ⟨by (with_reducible repeat (first | apply Kd.R_alloc | apply Kd.R_drewN | apply Kd.R_drew)); exact Kd.R_mono (Kd.R_far (p := ⟨gb607, 2, none⟩) (Kd.R_far (p := ⟨gb607, 1, none⟩) (Kd.R_far (p := ⟨gb607, 0, none⟩) (Kd.R_types HO618.out BK607.out (by decide)) (fun _ hk => hk.2) (.slice Ao38 y616.length co38)) (fun _ hk => hk.2) (.int .i64 t608)) (fun _ hk => hk.2) (.string t609)) (fun _ hk => hk.1)⟩
        have n2_ : Aside0 ((((w36.setCell ⟨gb607, 0, none⟩ (.slice Ao38 y616.length co38)).setCell ⟨gb607, 1, none⟩ (.int .i64 t608)).setCell ⟨gb607, 2, none⟩ (.string t609)).heap[gb601]? = some (.cells #[.slice none 0 0, .int .i64 x602001_1, .string x602002_1] 31 (0, 0))) := ⟨kq_ BK601⟩
        have n3_ : Aside0 ((((w36.setCell ⟨gb607, 0, none⟩ (.slice Ao38 y616.length co38)).setCell ⟨gb607, 1, none⟩ (.int .i64 t608)).setCell ⟨gb607, 2, none⟩ (.string t609)).heap[gb607]? = some (.cells #[.slice Ao38 y616.length co38, .int .i64 t608, .string t609] 31 (0, 0))) := ⟨kq_ BK607⟩
        have n4_ : Aside0 ((((w36.setCell ⟨gb607, 0, none⟩ (.slice Ao38 y616.length co38)).setCell ⟨gb607, 1, none⟩ (.int .i64 t608)).setCell ⟨gb607, 2, none⟩ (.string t609)).heap[gb615]? = some (.cells #[.int .i64 t608, .string t609] 28 (0, 0))) := ⟨kq_ BK615⟩
        have n5_ : Aside0 (Below w.heap.size w (((w36.setCell ⟨gb607, 0, none⟩ (.slice Ao38 y616.length co38)).setCell ⟨gb607, 1, none⟩ (.int .i64 t608)).setCell ⟨gb607, 2, none⟩ (.string t609))) := ⟨bw_ HB⟩
        generalize (((w36.setCell ⟨gb607, 0, none⟩ (.slice Ao38 y616.length co38)).setCell ⟨gb607, 1, none⟩ (.int .i64 t608)).setCell ⟨gb607, 2, none⟩ (.string t609)) = w42 at n0_ n1_ n2_ n3_ n4_ n5_ ⊢
        have HO_7 := n0_
        have HO618 := n1_
        have BK601 := n2_
        have BK607 := n3_
        have BK615 := n4_
        have HB := n5_
        clear n0_ n1_ n2_ n3_ n4_ n5_
        replace HO_7 := Aside0.mk (Kd.R_drew HO_7.out)
        replace HO618 := Aside0.mk (Kd.R_drew HO618.out)
        replace BK601 := Aside0.mk (blk_drew BK601.out)
        replace BK607 := Aside0.mk (blk_drew BK607.out)
        replace BK615 := Aside0.mk (blk_drew BK615.out)
        replace HB := Aside0.mk (below_drew1 HB.out)
        refine start_ (n := 5) (S := fun w' => w'.cell? ⟨gb615, 0, none⟩ = some (.int .i64 t608) ∧ w'.cell? ⟨gb615, 1, none⟩ = some (.string t609) ∧ w'.cell? ⟨gb607, 0, none⟩ = some (.slice Ao38 y616.length co38) ∧ w'.cell? ⟨gb607, 1, none⟩ = some (.int .i64 t608) ∧ w'.cell? ⟨gb607, 2, none⟩ = some (.string t609)) (ds := []) (lz_ 5 0) (by kernel_rfl) rfl rfl ⟨bc0_ BK615.out, bc1_ BK615.out, bc0_ BK607.out, bc1_ BK607.out, bc2_ BK607.out⟩ (fun hHeld => ?_)
        generalize w42.drew = w43 at HO_7 HO618 BK601 BK607 BK615 HB hHeld ⊢
        refine pk_ 1 44 2 ?_
        refine tk_ 0 43 3 ?_
        refine tk_ 2 45 7 ?_
        refine one_ (i := 3) (N := some 46) (lz_ 5 15) rfl rfl (by kernel_rfl) (by decide) (fun K hK => ?_)
        refine ge_ Try.func72 #[.slice Ao38 y616.length co38] ?_
        with_reducible refine (spec_HeadOf.calls kj10 _ _ y616 t619 t620 _ ?side1 ?side2 A31.out).mono ?_
        (case side1 => exact ch_ HO618)
        (case side2 => exact (cl_ HO618))
        rintro e w44 ⟨rfl, hb⟩
        refine ⟨_, rfl, ?_⟩
        replace HO_7 := rb_ HO_7 hb
        replace HO618 := rb_ HO618 hb
        replace BK601 := kl_ BK601 hb
        replace BK607 := kl_ BK607 hb
        replace BK615 := kl_ BK615 hb
        replace HB := ss_ HB hb
        clear hb
        refine hK.out _ _ ⟨bc0_ BK615.out, bc1_ BK615.out, bc0_ BK607.out, bc1_ BK607.out, bc2_ BK607.out⟩ (fun hHeld => ?_)
        clear hK K
        refine no_ 46 ?_
        refine pk_ 4 47 31 ?_
        refine done_ (by kernel_rfl) ?_
        have hz45 := cz3_ BK607
        have hz46 := cz3_ BK601
        try go_wp2
        refine bodyPost_ret (results_ct rfl _ _ gb601 31 #[.slice Ao38 y616.length co38, .int .i64 t608, .string t609] (0, 0) _ rfl (by exact kq_ BK601) Try.underlying31 rfl (by kernel_rfl)) rfl ?_
        exact ⟨_, e2_, by (with_reducible repeat (first | apply Kd.R_alloc | apply Kd.R_drewN | apply Kd.R_drew)); exact Kd.R_mono (Kd.R_far (p := ⟨gb601, 2, none⟩) (Kd.R_far (p := ⟨gb601, 1, none⟩) (Kd.R_far (p := ⟨gb601, 0, none⟩) (Kd.R_types HO618.out BK601.out (by decide)) (fun _ hk => hk.2) (.slice Ao38 y616.length co38)) (fun _ hk => hk.2) (.int .i64 t608)) (fun _ hk => hk.2) (.string t609)) (fun _ hk => trivial), bw_ HB⟩
       ·have c32b0 : (!(t608 == t619) || (!(t609.toList == t620.toList))) = false := by simpa using c32
        clear c32
        have H' := Aside0.mk H
        clear H
        have hnb47 := NB607_601.out
        have hnc47 := NB601_607.out
        have hnb48 := NB607_615.out
        have hnc48 := NB615_607.out
        have hz49 := cz3_ BK607
        obtain ⟨Ao51, co51, eo51⟩ := Kd.R_slice HO_7.out
        subst eo51
        try go_wp2_with (first | ((with_reducible refine gate_builtin (b := .append) (xs := #[.tmp 36, .tmp 37]) rfl ?_); (try (refine gate_guard (by rfl) ?_; dsimp only)); at_builtin; refine Kd.R_append_rows Kd.string (w0 := w) w.heap.size rfl (.tmp 36) (.tmp 37) 24 9 (.string ⟨#[]⟩) 16 rfl Try.underlying24 info9 rfl (by decide) (by omega) u608000 x608000_1 t610 _ _ _ (fun k_ => some k_ ≠ (.slice Ao51 t610.length co51 : Value).ownBlock) (fun _ => False) rfl rfl ?aO ?aR (fun _ _ h => h) (fun _ h => h.elim) ?aF ?aB ?aS ?aL ?_; (case aR => repeat (first | exact (Kd.R_reads' HO_7.out).2.2 | (with_reducible refine Kd.C_alloc ?_ _) | (with_reducible refine Kd.C_drewN ?_ _) | (with_reducible refine Kd.C_drew ?_))); (case aB => exact (bw_ HB)); (case aF => exact (fun k_ hk => Kd.fresh' (lt_ HO_7) k_ hk)); (case aO => exact (kr_ HO_608000.out)); (case aS => exact (sz_ HB)); (case aL => have := LMc30.out; omega); intro v617 w50 ho hb hg hat; rw [← Ny616.out] at ho; replace HO_7 := Aside0.mk (Kd.R_after (ok := (fun _ => True)) (kr_ (Kd.R_mono HO_7.out (fun _ hk => ⟨trivial, hk⟩))) hg hat); replace BK601 := kg_ BK601 HO_608000 hg; replace BK607 := kg_ BK607 HO_608000 hg; replace BK615 := kg_ BK615 HO_608000 hg; replace HB := Aside0.mk hb; have HO618 := Aside0.mk ho; clear HO_608000; clear ho hb hg hat; obtain ⟨Ao52, co52, eo52⟩ := Kd.R_slice HO618.out; subst eo52; have hz53 := cz3_ BK607; have hnb54 := NB615_601.out; have hnc54 := NB601_615.out; have hz55 := cz2_ BK615))
        have n0_ : Aside0 (Kd.R Kd.string 9 (((w50.setCell ⟨gb607, 0, none⟩ (.slice Ao52 y616.length co52)).setCell ⟨gb607, 1, none⟩ (.int .i64 t608)).setCell ⟨gb607, 2, none⟩ (.string t609)) w.heap.size (fun k_ => some k_ ≠ (.slice Ao52 y616.length co52 : Value).ownBlock) (.slice Ao51 t610.length co51) t610) := ⟨by (with_reducible repeat (first | apply Kd.R_alloc | apply Kd.R_drewN | apply Kd.R_drew)); exact Kd.R_mono (Kd.R_far (p := ⟨gb607, 2, none⟩) (Kd.R_far (p := ⟨gb607, 1, none⟩) (Kd.R_far (p := ⟨gb607, 0, none⟩) (Kd.R_types HO_7.out BK607.out (by decide)) (fun _ hk => hk.2) (.slice Ao52 y616.length co52)) (fun _ hk => hk.2) (.int .i64 t608)) (fun _ hk => hk.2) (.string t609)) (fun _ hk => hk.1.2)⟩
        have n1_ : Aside0 (Kd.R Kd.string 9 (((w50.setCell ⟨gb607, 0, none⟩ (.slice Ao52 y616.length co52)).setCell ⟨gb607, 1, none⟩ (.int .i64 t608)).setCell ⟨gb607, 2, none⟩ (.string t609)) w.heap.size (fun k_ => some k_ ≠ (.slice Ao51 t610.length co51 : Value).ownBlock) (.slice Ao52 y616.length co52) y616) := ⟨by (with_reducible repeat (first | apply Kd.R_alloc | apply Kd.R_drewN | apply Kd.R_drew)); exact Kd.R_mono (Kd.R_far (p := ⟨gb607, 2, none⟩) (Kd.R_far (p := ⟨gb607, 1, none⟩) (Kd.R_far (p := ⟨gb607, 0, none⟩) (Kd.R_types HO618.out BK607.out (by decide)) (fun _ hk => hk.2) (.slice Ao52 y616.length co52)) (fun _ hk => hk.2) (.int .i64 t608)) (fun _ hk => hk.2) (.string t609)) (fun _ hk => hk.1)⟩
        have n2_ : Aside0 ((((w50.setCell ⟨gb607, 0, none⟩ (.slice Ao52 y616.length co52)).setCell ⟨gb607, 1, none⟩ (.int .i64 t608)).setCell ⟨gb607, 2, none⟩ (.string t609)).heap[gb601]? = some (.cells #[.slice none 0 0, .int .i64 x602001_1, .string x602002_1] 31 (0, 0))) := ⟨kq_ BK601⟩
        have n3_ : Aside0 ((((w50.setCell ⟨gb607, 0, none⟩ (.slice Ao52 y616.length co52)).setCell ⟨gb607, 1, none⟩ (.int .i64 t608)).setCell ⟨gb607, 2, none⟩ (.string t609)).heap[gb607]? = some (.cells #[.slice Ao52 y616.length co52, .int .i64 t608, .string t609] 31 (0, 0))) := ⟨kq_ BK607⟩
        have n4_ : Aside0 ((((w50.setCell ⟨gb607, 0, none⟩ (.slice Ao52 y616.length co52)).setCell ⟨gb607, 1, none⟩ (.int .i64 t608)).setCell ⟨gb607, 2, none⟩ (.string t609)).heap[gb615]? = some (.cells #[.int .i64 t608, .string t609] 28 (0, 0))) := ⟨kq_ BK615⟩
        have n5_ : Aside0 (Below w.heap.size w (((w50.setCell ⟨gb607, 0, none⟩ (.slice Ao52 y616.length co52)).setCell ⟨gb607, 1, none⟩ (.int .i64 t608)).setCell ⟨gb607, 2, none⟩ (.string t609))) := ⟨bw_ HB⟩
        generalize (((w50.setCell ⟨gb607, 0, none⟩ (.slice Ao52 y616.length co52)).setCell ⟨gb607, 1, none⟩ (.int .i64 t608)).setCell ⟨gb607, 2, none⟩ (.string t609)) = w56 at n0_ n1_ n2_ n3_ n4_ n5_ ⊢
        have HO_7 := n0_
        have HO618 := n1_
        have BK601 := n2_
        have BK607 := n3_
        have BK615 := n4_
        have HB := n5_
        clear n0_ n1_ n2_ n3_ n4_ n5_
        replace HO_7 := Aside0.mk (Kd.R_drew HO_7.out)
        replace HO618 := Aside0.mk (Kd.R_drew HO618.out)
        replace BK601 := Aside0.mk (blk_drew BK601.out)
        replace BK607 := Aside0.mk (blk_drew BK607.out)
        replace BK615 := Aside0.mk (blk_drew BK615.out)
        replace HB := Aside0.mk (below_drew1 HB.out)
        refine start_ (n := 5) (S := fun w' => w'.cell? ⟨gb615, 0, none⟩ = some (.int .i64 t608) ∧ w'.cell? ⟨gb615, 1, none⟩ = some (.string t609) ∧ w'.cell? ⟨gb607, 0, none⟩ = some (.slice Ao52 y616.length co52) ∧ w'.cell? ⟨gb607, 1, none⟩ = some (.int .i64 t608) ∧ w'.cell? ⟨gb607, 2, none⟩ = some (.string t609)) (ds := []) (lz_ 5 0) (by kernel_rfl) rfl rfl ⟨bc0_ BK615.out, bc1_ BK615.out, bc0_ BK607.out, bc1_ BK607.out, bc2_ BK607.out⟩ (fun hHeld => ?_)
        generalize w56.drew = w57 at HO_7 HO618 BK601 BK607 BK615 HB hHeld ⊢
        refine pk_ 1 44 2 ?_
        refine tk_ 0 43 3 ?_
        refine tk_ 2 45 7 ?_
        refine one_ (i := 3) (N := some 46) (lz_ 5 15) rfl rfl (by kernel_rfl) (by decide) (fun K hK => ?_)
        refine ge_ Try.func72 #[.slice Ao52 y616.length co52] ?_
        with_reducible refine (spec_HeadOf.calls kj10 _ _ y616 t619 t620 _ ?side1 ?side2 A31.out).mono ?_
        (case side1 => exact ch_ HO618)
        (case side2 => exact (cl_ HO618))
        rintro e w58 ⟨rfl, hb⟩
        refine ⟨_, rfl, ?_⟩
        replace HO_7 := rb_ HO_7 hb
        replace HO618 := rb_ HO618 hb
        replace BK601 := kl_ BK601 hb
        replace BK607 := kl_ BK607 hb
        replace BK615 := kl_ BK615 hb
        replace HB := ss_ HB hb
        clear hb
        refine hK.out _ _ ⟨bc0_ BK615.out, bc1_ BK615.out, bc0_ BK607.out, bc1_ BK607.out, bc2_ BK607.out⟩ (fun hHeld => ?_)
        clear hK K
        refine no_ 46 ?_
        refine pk_ 4 47 31 ?_
        refine done_ (by kernel_rfl) ?_
        try go_wp2
        go_roundg kj10
        case measure => have := HK1.out; have := HJ10.out; omega
        case rel => exact ⟨(t613), (x602001_1), (x602002_1), (y616), (t608), (t609), (.slice Ao52 y616.length co52), e1_, H', ⟨by have := HK1.out; have := HJ10.out; omega⟩, ⟨by (with_reducible repeat (first | apply Kd.R_alloc | apply Kd.R_drewN | apply Kd.R_drew)); exact Kd.R_mono HO618.out (fun _ hk => trivial)⟩, ⟨kb_ BK601.out⟩, ⟨kb_ BK607.out⟩, ⟨bw_ HB⟩⟩
   ·replace H := so4_ H; obtain ⟨rfl, rfl, rfl, rfl⟩ := H
    have hnb59 := NB607_601.out
    have hnc59 := NB601_607.out
    have hz60 := cz3_ BK607
    obtain ⟨Ao61, co61, eo61⟩ := Kd.R_slice HO_608000.out
    subst eo61
    have hz62 := cz3_ BK601
    go_wp2
    refine bodyPost_ret (results_ct rfl _ _ gb601 31 #[.slice Ao61 x608000_1.length co61, .int .i64 x608001_1, .string x608002_1] (0, 0) _ rfl (by exact kq_ BK601) Try.underlying31 rfl (by kernel_rfl)) rfl ?_
    exact ⟨_, e2_, by (with_reducible repeat (first | apply Kd.R_alloc | apply Kd.R_drewN | apply Kd.R_drew)); exact Kd.R_mono (Kd.R_far (p := ⟨gb601, 2, none⟩) (Kd.R_far (p := ⟨gb601, 1, none⟩) (Kd.R_far (p := ⟨gb601, 0, none⟩) (Kd.R_types HO_608000.out BK601.out (by decide)) (fun _ hk => hk.2) (.slice Ao61 x608000_1.length co61)) (fun _ hk => hk.2) (.int .i64 x608001_1)) (fun _ hk => hk.2) (.string x608002_1)) (fun _ hk => trivial), bw_ HB⟩
end Go.Proofs.Ytjnnglphdaemaaa.Q
end

section
-- Written by a program of this session (wip/tools/pp.sh) over the print of the kit.
namespace Go.Proofs.Ytjnnglphdaemaaa.Q
open Go.RowKit Go.Proofs.YtjnnglphdaemaaaW.PrintWords Go.Proofs.YtjnnglphdaemaaaW.PrintLast Go.Proofs.YtjnnglphdaemaaaW.PrintMore
attribute [local go_sem] max2_int min2_int max_two min_two max_three min_three max_four min_four   -- for this text's walks alone
set_option linter.unusedVariables false
set_option linter.unusedSimpArgs false
def spec_StoreOk.j0 : Nat → Bool → List ByteArray → Int → ByteArray → List Int → Int → Option (Bool)
 | 0, _, _, _, _, _, _ => none
 | k + 1, x23, x602000, x602001, x602002, x602003, x602004 => if x23 = true then (some false) else ((spec_l12Replay.f k x602003).bind fun bt604 => (if bt604.2.2.2 = true then ((spec_l8Same.f k bt604.1 x602000).bind fun t611 => (some t611)) else (some false)))
def spec_StoreOk.f (k : Nat) (l0_0 : List ByteArray) (a0_1 : Int) (a0_2 : ByteArray) (l0_3 : List Int) (a0_4 : Int) : Option (Bool) := (spec_LogOk.f k l0_0 a0_1 a0_2).bind fun t602 => (if t602 = true then (if (l0_3.length : Int) > 60000 then (spec_StoreOk.j0 k true l0_0 a0_1 a0_2 l0_3 a0_4) else ((spec_l1In.f a0_4 0 (l0_3.length : Int)).bind fun t603 => (spec_StoreOk.j0 k (!t603) l0_0 a0_1 a0_2 l0_3 a0_4))) else (spec_StoreOk.j0 k true l0_0 a0_1 a0_2 l0_3 a0_4))
theorem spec_StoreOk.mono_l : ∀ k, (∀ y0 y1 y2 y3 y4 y5, LeO (spec_StoreOk.j0 k y0 y1 y2 y3 y4 y5) (spec_StoreOk.j0 (k + 1) y0 y1 y2 y3 y4 y5))
 | 0 => fun _ _ _ _ _ _ r h => by simp [spec_StoreOk.j0] at h
 | k + 1 => by
  have ih0 := spec_StoreOk.mono_l k
  ·intro y0 y1 y2 y3 y4 y5
   unfold spec_StoreOk.j0
   repeat' (with_reducible first | exact LeO.refl _ | exact LeO.none _ | apply ih0 | apply spec_LogOk.mono | apply spec_l12Replay.mono | apply spec_l8Same.mono | apply LeO.ite | refine LeO.bind ?_ fun _ => ?_)
theorem spec_StoreOk.mono : ∀ a0 a1 a2 a3 a4 k, LeO (spec_StoreOk.f k a0 a1 a2 a3 a4) (spec_StoreOk.f (k + 1) a0 a1 a2 a3 a4) := by
 intro a0 a1 a2 a3 a4 k
 have ih0 := spec_StoreOk.mono_l k
 unfold spec_StoreOk.f
 repeat' (with_reducible first | exact LeO.refl _ | exact LeO.none _ | apply ih0 | apply spec_LogOk.mono | apply spec_l12Replay.mono | apply spec_l8Same.mono | apply LeO.ite | refine LeO.bind ?_ fun _ => ?_)
set_option maxHeartbeats 8000000 in
set_option maxRecDepth 100000 in
theorem spec_StoreOk.calls (k : Nat) (A0_0 : Option Addr) (c0_0 : Nat) (l0_0 : List ByteArray) (a0_1 : Int) (a0_2 : ByteArray) (A0_3 : Option Addr) (c0_3 : Nat) (l0_3 : List Int) (a0_4 : Int) (r : Bool) (w : World) (hr0_0 : Kd.C Kd.string w A0_0 l0_0.length l0_0) (hc0_0 : l0_0.length ≤ c0_0) (hr0_3 : Kd.C (Kd.int .u8) w A0_3 l0_3.length l0_3) (hc0_3 : l0_3.length ≤ c0_3) (h : spec_StoreOk.f k l0_0 a0_1 a0_2 l0_3 a0_4 = some r) :
  Calls Try.prog 88 #[.agg #[.slice A0_0 l0_0.length c0_0, .int .i64 a0_1, .string a0_2, .slice A0_3 l0_3.length c0_3, .int .i64 a0_4]] w fun e w' => e = .returned (.bool r) ∧ Below w.heap.size w w' := by
 have hu37 := Try.underlying37
 have hu31 := Try.underlying31
 have HR0_0 := Aside0.mk hr0_0
 have HC0_0 := Aside0.mk hc0_0
 clear hr0_0 hc0_0
 have HR0_3 := Aside0.mk hr0_3
 have HC0_3 := Aside0.mk hc0_3
 clear hr0_3 hc0_3
 have HB := Aside0.mk (Below.refl w.heap.size w)
 have H : ((spec_LogOk.f k l0_0 a0_1 a0_2).bind fun t602 => (if t602 = true then (if (l0_3.length : Int) > 60000 then (spec_StoreOk.j0 k true l0_0 a0_1 a0_2 l0_3 a0_4) else ((spec_l1In.f a0_4 0 (l0_3.length : Int)).bind fun t603 => (spec_StoreOk.j0 k (!t603) l0_0 a0_1 a0_2 l0_3 a0_4))) else (spec_StoreOk.j0 k true l0_0 a0_1 a0_2 l0_3 a0_4))) = some r := h
 clear h
 have HC2 := Aside0.mk H
 clear H
 go_enter Try.func88, Try.ntmps88
 go_upto_region 1 with (first | ((with_reducible refine gd_ 1 ?_); (try (refine gate_guard (by rfl) ?_; dsimp only)); refine bx_ 1 37 #[.slice A0_0 l0_0.length c0_0, .int .i64 a0_1, .string a0_2, .slice A0_3 l0_3.length c0_3, .int .i64 a0_4] ?_; intro gb601 hg w3 hbox hb; have BK601 := Aside0.mk hbox; have GW601 := gg_ hg HB; have GE601 := GW601; replace HB := ss_ HB hb; clear hb hbox hg))
 (try simp only [Act.put, List.setIfInBounds_toArray, List.set_cons_zero, List.set_cons_succ])
 go_cut [23] (fun v23 wc => ∃ (kq : Nat) (x23_1 : Bool), v23 = .bool x23_1 ∧ Aside0 (spec_StoreOk.j0 kq x23_1 l0_0 a0_1 a0_2 l0_3 a0_4 = some r) ∧ Aside0 (kq ≤ k) ∧ Aside0 (wc.heap[gb601]? = some (.cells #[(.slice A0_0 l0_0.length c0_0), .int .i64 a0_1, .string a0_2, (.slice A0_3 l0_3.length c0_3), .int .i64 a0_4] 37 (0, 0))) ∧ Aside0 (Below w.heap.size w wc))
 case first =>
  have H := HC2.out
  clear HC2
  replace H := bi_ H; obtain ⟨t602, A4, H⟩ := H
  replace H := itb_ H; obtain ⟨rfl, H⟩ | ⟨rfl, H⟩ := H
  ·replace H := it_ H; obtain ⟨c6, H⟩ | ⟨c6, H⟩ := H
   ·have c6b0 : decide (60000 < (l0_3.length : Int)) = true := decide_eq_true c6
    have c6b1 : decide (60000 < l0_3.length) = true := decide_eq_true (by omega)
    clear c6
    (first | rw [c6b0] | (simp only [i64_w, i32_w]; rw [c6b0]) | rw [c6b1] | skip)
    have H' := Aside0.mk H
    clear H
    have hz7 := cz5_ BK601
    go_wp2_with (first | ((with_reducible refine gq_ 77 7 ?_); refine gc_ 7 Try.func77 (spec_LogOk.calls k _ _ l0_0 a0_1 a0_2 true _ (cb_ HR0_0 HB) HC0_0.out A4.out) ?_; rintro e w8 ⟨rfl, hb⟩; refine ⟨_, rfl, ?_⟩; replace BK601 := kl_ BK601 hb; replace HB := ss_ HB hb; clear hb; have hz9 := cz5_ BK601))
    go_meet
    case rel => exact ⟨_, (true), e1_, H', ⟨le_⟩, ⟨kb_ BK601.out⟩, ⟨bw_ HB⟩⟩
   ·have c6b0 : decide (60000 < (l0_3.length : Int)) = false := decide_eq_false c6
    have c6b1 : decide (60000 < l0_3.length) = false := decide_eq_false (by omega)
    clear c6
    (first | rw [c6b0] | (simp only [i64_w, i32_w]; rw [c6b0]) | rw [c6b1] | skip)
    replace H := bi_ H; obtain ⟨t603, A10, H⟩ := H
    have H' := Aside0.mk H
    clear H
    have hz11 := cz5_ BK601
    go_wp2_with (first | ((with_reducible refine gq_ 77 7 ?_); refine gc_ 7 Try.func77 (spec_LogOk.calls k _ _ l0_0 a0_1 a0_2 true _ (cb_ HR0_0 HB) HC0_0.out A4.out) ?_; rintro e w12 ⟨rfl, hb⟩; refine ⟨_, rfl, ?_⟩; replace BK601 := kl_ BK601 hb; replace HB := ss_ HB hb; clear hb; have hz13 := cz5_ BK601) | (go_at_call 90; (with_reducible refine (spec_l1In.calls a0_4 0 (l0_3.length : Int) t603 _ A10.out).mono ?_); rintro e w' ⟨rfl, ⟨nd, rfl⟩⟩))
    go_meet
    case rel => exact ⟨_, (!t603), e1_, H', ⟨le_⟩, ⟨kb_ BK601.out⟩, ⟨bw_ HB⟩⟩
  ·have H' := Aside0.mk H
   clear H
   have hz14 := cz5_ BK601
   go_wp2_with (first | ((with_reducible refine gq_ 77 7 ?_); refine gc_ 7 Try.func77 (spec_LogOk.calls k _ _ l0_0 a0_1 a0_2 false _ (cb_ HR0_0 HB) HC0_0.out A4.out) ?_; rintro e w15 ⟨rfl, hb⟩; refine ⟨_, rfl, ?_⟩; replace BK601 := kl_ BK601 hb; replace HB := ss_ HB hb; clear hb))
   go_meet
   case rel => exact ⟨_, (true), e1_, H', ⟨le_⟩, ⟨kb_ BK601.out⟩, ⟨bw_ HB⟩⟩
 case rest =>
  clear HC2
  obtain ⟨kq, x23_1, rfl, HA, HJ1, BK601, HB⟩ := hcut
  cases kq with
  | zero => exact absurd HA.out (by simp [spec_StoreOk.j0])
  | succ kj1 =>
   have H := HA.out
   clear HA
   simp only [spec_StoreOk.j0] at H
   replace H := itb_ H; obtain ⟨rfl, H⟩ | ⟨rfl, H⟩ := H
   ·obtain rfl := Option.some.inj H
    go_wp2
    go_ret
    exact ⟨e2_, bw_ HB⟩
   ·replace H := bi_ H; obtain ⟨⟨t604, t607, t608, t609⟩, A17, H⟩ := H
    dsimp only at H
    replace H := itb_ H; obtain ⟨rfl, H⟩ | ⟨rfl, H⟩ := H
    ·replace H := bi_ H; obtain ⟨t611, A19, H⟩ := H
     obtain rfl := Option.some.inj H
     have hz20 := cz5_ BK601
     go_wp2_with (first | ((with_reducible refine gq_ 116 27 ?_); refine gc_ 27 Try.func116 (spec_l12Replay.calls kj1 _ _ l0_3 t604 t607 t608 true _ (cb_ HR0_3 HB) HC0_3.out A17.out) ?_; rintro e w21 ⟨v605, rfl, ho0, hb⟩; refine ⟨_, rfl, ?_⟩; have HO606 := Aside0.mk (Kd.R_lower ho0 (sz_ HB)); replace BK601 := kl_ BK601 hb; replace HB := ss_ HB hb; clear hb ho0) | ((with_reducible refine gd_ 3 ?_); (try (refine gate_guard (by rfl) ?_; dsimp only)); refine bx_ 3 31 #[.slice none 0 0, .int .i64 0, .string (⟨#[]⟩ : ByteArray)] ?_; intro gb610 hg w22 hbox hb; replace HO606 := rb_ HO606 hb; have BK610 := Aside0.mk hbox; have GW610 := gg_ hg HB; have GE610 := GW610; replace HB := ss_ HB hb; have NB601_610 := nla_ hg BK601; have NB610_601 := nga_ hg BK601; replace BK601 := kl_ BK601 hb; clear hb hbox hg; obtain ⟨Ao23, co23, eo23⟩ := Kd.R_slice HO606.out; subst eo23; have hnb24 := NB610_601.out; have hnc24 := NB601_610.out; have hz25 := cz3_ BK610; have hz26 := cz5_ BK601) | (go_at_call 117; (with_reducible refine (spec_l8Same.calls kj1 _ _ t604 _ _ l0_0 t611 _ ?side1 ?side2 ?side3 ?side4 A19.out).mono ?_); (case side1 => exact chf_ HO606 BK610); (case side2 => exact (cl_ HO606)); (case side3 => exact Kd.C_below HR0_0.out (bw_ HB)); (case side4 => exact HC0_0.out); rintro e w' ⟨rfl, ⟨nd, rfl⟩⟩))
     go_ret
     exact ⟨e2_, bw_ HB⟩
    ·obtain rfl := Option.some.inj H
     have hz27 := cz5_ BK601
     go_wp2_with (first | ((with_reducible refine gq_ 116 27 ?_); refine gc_ 27 Try.func116 (spec_l12Replay.calls kj1 _ _ l0_3 t604 t607 t608 false _ (cb_ HR0_3 HB) HC0_3.out A17.out) ?_; rintro e w28 ⟨v605, rfl, ho0, hb⟩; refine ⟨_, rfl, ?_⟩; have HO606 := Aside0.mk (Kd.R_lower ho0 (sz_ HB)); replace BK601 := kl_ BK601 hb; replace HB := ss_ HB hb; clear hb ho0) | ((with_reducible refine gd_ 3 ?_); (try (refine gate_guard (by rfl) ?_; dsimp only)); refine bx_ 3 31 #[.slice none 0 0, .int .i64 0, .string (⟨#[]⟩ : ByteArray)] ?_; intro gb610 hg w29 hbox hb; replace HO606 := rb_ HO606 hb; have BK610 := Aside0.mk hbox; have GW610 := gg_ hg HB; have GE610 := GW610; replace HB := ss_ HB hb; have NB601_610 := nla_ hg BK601; have NB610_601 := nga_ hg BK601; replace BK601 := kl_ BK601 hb; clear hb hbox hg; obtain ⟨Ao30, co30, eo30⟩ := Kd.R_slice HO606.out; subst eo30; have hnb31 := NB610_601.out; have hnc31 := NB601_610.out; have hz32 := cz3_ BK610))
     go_ret
     exact ⟨e2_, bw_ HB⟩
end Go.Proofs.Ytjnnglphdaemaaa.Q
end

section
/- Whether a store's bytes make its log: the program's loop and the reference's answer alike. Plain. -/
namespace Go.Proofs.Ytjnnglphdaemaaa.Q
open Go.RowKit Go.Proofs.Ytjnnglphdaemaaa.B Go.Proofs.YtjnnglphdaemaaaW.PrintWords Go.Proofs.YtjnnglphdaemaaaW.PrintMore
set_option linter.unusedVariables false
set_option linter.unusedSimpArgs false

theorem log_new : Ev (fun k => spec_LogNew.f k) (([] : List ByteArray), (headOf []).1, (headOf []).2) := by
  unfold spec_LogNew.f
  exact Ev.bind (spec_HeadOf_ev [] (by simp)) (Ev.now _)
theorem ev_uniq {α : Type} {g : Nat → Option α} {r q : α} (h : Ev g r) (k : Ev g q) : r = q := by
  obtain ⟨K, h⟩ := h
  obtain ⟨M, k⟩ := k
  exact Option.some.inj ((h (max K M) (Nat.le_max_left _ _)).symm.trans (k (max K M) (Nat.le_max_right _ _)))
/-- One commit read at a place, by both. -/
theorem getCommit_step (b : List Int) (hb : InB b) (hl : b.length ≤ 1048576) (a : Nat) (ha : a ≤ b.length) :
    ∃ n s t nx ok, Ev (fun q => spec_GetCommit.f q b (a : Int)) (n, s, t, nx, ok) ∧ Ev (fun q => impl_GetCommit.f q b (a : Int)) (n, s, t, nx, ok) ∧ t.length ≤ 200 ∧ (∀ x ∈ t, x.size ≤ bigB) ∧
      (ok = true → ∃ c : Nat, nx = (c : Int) ∧ a < c ∧ c ≤ b.length) ∧ (ok = false → t = []) := by
  obtain ⟨n, s, t, nx, ok, e1, ht, c1, c2⟩ := getCommitI b hb (by omega) (a : Int) (by omega) (by omega)
  obtain ⟨n', s', t', nx', ok', e2, e3, _⟩ := getCommit_both b hb (by omega) (a : Int) (by omega) (by omega)
  have h := ev_uniq e3 e1
  simp only [Prod.mk.injEq] at h
  obtain ⟨rfl, rfl, rfl, rfl, rfl⟩ := h
  refine ⟨_, _, _, _, _, e2, e1, ht, ?_, ?_, ?_⟩
  · cases hok : ok' with
    | true =>
      obtain ⟨a', N, h1, rfl, _, _, hd, _, hle⟩ := c1 hok
      intro x hx
      have h2 := commitB_length N s' t'
      have h3 := bodyB_ge N s' t'
      have h4 := total_mem hx
      unfold bigB
      omega
    | false =>
      obtain ⟨_, _, rfl, _⟩ := c2 hok
      intro x hx
      cases hx
  · intro hok
    obtain ⟨a', N, h1, rfl, _, _, hd, h2, hle⟩ := c1 hok
    have h3 := commitB_length N s' t'
    exact ⟨_, h2, by omega, hle⟩
  · intro hok
    exact (c2 hok).2.2.1
theorem sizes_app {l t : List ByteArray} (h : ∀ x ∈ l, x.size ≤ bigB) (k : ∀ x ∈ t, x.size ≤ bigB) : ∀ x ∈ l ++ t, x.size ≤ bigB := fun x hx => (List.mem_append.1 hx).elim (h x) (k x)
/-- Where there are too many texts already, the program says no in the end. -/
theorem impl_many (b : List Int) (hb : InB b) (hl : b.length ≤ 1048576) (L : List ByteArray) (hL : L.length ≤ 200) (N : Int) (S : ByteArray) (U : Int) : ∀ (m a : Nat) (T : List ByteArray), b.length - a ≤ m → a ≤ b.length → 200 < T.length → T.length + 200 * (b.length - a) ≤ 1000000000 → (∀ x ∈ T, x.size ≤ bigB) →
    Ev (fun k => impl_StoreOk.l0 k T (a : Int) L N S b U) false := by
  intro m
  induction m with
  | zero =>
    intro a T h1 h2 h3 h4 h5
    refine Ev.step (fun k => by simp only [impl_StoreOk.l0]; rfl) ?_
    refine Ev.neg (by omega) (Ev.bind (impl_same_ev T L (by omega)) ?_)
    rw [decide_eq_false (fun e => by rw [e] at h3; omega)]
    exact Ev.now _
  | succ m ih =>
    intro a T h1 h2 h3 h4 h5
    refine Ev.step (fun k => by simp only [impl_StoreOk.l0]; rfl) ?_
    by_cases ha : (a : Int) < (b.length : Int)
    · obtain ⟨n, s, t, nx, ok, e1, e2, ht, hs, c1, c2⟩ := getCommit_step b hb hl a h2
      refine Ev.pos ha (Ev.bind e2 ?_)
      simp only
      refine Ev.pos (by omega) ?_
      simp only [Option.bind_some]
      cases ok with
      | false => exact Ev.neg (by simp) (Ev.now _)
      | true =>
        obtain ⟨c, rfl, h6, h7⟩ := c1 rfl
        refine Ev.pos rfl (Ev.bind (impl_HeadOf_ev (T ++ t) (sizes_app h5 hs)) ?_)
        by_cases hh : (!(n == (headOf (T ++ t)).1) || (!(s.toList == (headOf (T ++ t)).2.toList))) = true
        · exact Ev.pos hh (Ev.now _)
        · refine Ev.neg hh (ih c (T ++ t) (by omega) h7 (by rw [List.length_append]; omega) (by rw [List.length_append]; omega) (sizes_app h5 hs))
    · refine Ev.neg ha (Ev.bind (impl_same_ev T L (by omega)) ?_)
      rw [decide_eq_false (fun e => by rw [e] at h3; omega)]
      exact Ev.now _
theorem replay_both (b : List Int) (hb : InB b) (hl : b.length ≤ 1048576) (L : List ByteArray) (hL : L.length ≤ 200) (N : Int) (S : ByteArray) (U : Int) : ∀ (m a : Nat) (T : List ByteArray) (n : Int) (s : ByteArray), b.length - a ≤ m → a ≤ b.length → T.length ≤ 200 → (∀ x ∈ T, x.size ≤ bigB) →
    ∃ T' n' s' ok, Ev (fun k => spec_l12Replay.l0 k b (a : Int) T n s) (T', n', s', ok) ∧ T'.length ≤ 200 ∧ (∀ x ∈ T', x.size ≤ bigB) ∧ Ev (fun k => impl_StoreOk.l0 k T (a : Int) L N S b U) (if ok = true then decide (T' = L) else false) := by
  intro m
  induction m with
  | zero =>
    intro a T n s h1 h2 h3 h5
    refine ⟨T, n, s, true, ?_, h3, h5, ?_⟩
    · refine Ev.step (fun k => by simp only [spec_l12Replay.l0]; rfl) ?_
      exact Ev.neg (by omega) (Ev.now _)
    · refine Ev.step (fun k => by simp only [impl_StoreOk.l0]; rfl) ?_
      exact Ev.neg (by omega) (Ev.bind (impl_same_ev T L (by omega)) (Ev.now _))
  | succ m ih =>
    intro a T n s h1 h2 h3 h5
    by_cases ha : (a : Int) < (b.length : Int)
    · obtain ⟨n1, s1, t, nx, ok, e1, e2, ht, hs, c1, c2⟩ := getCommit_step b hb hl a h2
      cases ok with
      | false =>
        refine ⟨T, n, s, false, ?_, h3, h5, ?_⟩
        · refine Ev.step (fun k => by simp only [spec_l12Replay.l0]; rfl) ?_
          refine Ev.pos ha (Ev.bind e1 (Ev.neg (by simp) ?_))
          refine Ev.step (fun k => by simp only [spec_l12Replay.j1]; rfl) ?_
          exact Ev.pos trivial (Ev.now _)
        · refine Ev.step (fun k => by simp only [impl_StoreOk.l0]; rfl) ?_
          refine Ev.pos ha (Ev.bind e2 (Ev.pos (by simp only; omega) ?_))
          simp only [Option.bind_some]
          exact Ev.neg (by simp) (Ev.now _)
      | true =>
        obtain ⟨c, rfl, h6, h7⟩ := c1 rfl
        have hw : wrap64 ((T.length : Int) + (t.length : Int)) = ((T.length + t.length : Nat) : Int) := by
          rw [w64 (by omega) (by omega)]
          omega
        have hsz := sizes_app h5 hs
        have hI : ∀ r, Ev (fun k => if (!(n1 == (headOf (T ++ t)).1) || (!(s1.toList == (headOf (T ++ t)).2.toList))) = true then some false else impl_StoreOk.l0 k (T ++ t) (c : Int) L N S b U) r → Ev (fun k => impl_StoreOk.l0 k T (a : Int) L N S b U) r := by
          intro r hr
          refine Ev.step (fun k => by simp only [impl_StoreOk.l0]; rfl) ?_
          refine Ev.pos ha (Ev.bind e2 (Ev.pos (by simp only; omega) ?_))
          simp only [Option.bind_some]
          exact Ev.pos trivial (Ev.bind (impl_HeadOf_ev (T ++ t) hsz) hr)
        by_cases hm : T.length + t.length ≤ 200
        · have hS : ∀ r, Ev (fun k => if (!(n1 == (headOf (T ++ t)).1) || (!(s1.toList == (headOf (T ++ t)).2.toList))) = true then some (T ++ t, n1, s1, false) else spec_l12Replay.l0 k b (c : Int) (T ++ t) n1 s1) r → Ev (fun k => spec_l12Replay.l0 k b (a : Int) T n s) r := by
            intro r hr
            refine Ev.step (fun k => by simp only [spec_l12Replay.l0]; rfl) ?_
            refine Ev.pos ha (Ev.bind e1 (Ev.pos rfl ?_))
            simp only [hw]
            rw [decide_eq_false (by omega)]
            refine Ev.step (fun k => by simp only [spec_l12Replay.j1]; rfl) ?_
            refine Ev.neg (by simp) (Ev.pos (by omega) ?_)
            simp only [Option.bind_some]
            exact Ev.bind (spec_HeadOf_ev (T ++ t) hsz) hr
          have hlen : (T ++ t).length ≤ 200 := by rw [List.length_append]; exact hm
          by_cases hh : (!(n1 == (headOf (T ++ t)).1) || (!(s1.toList == (headOf (T ++ t)).2.toList))) = true
          · exact ⟨_, _, _, false, hS _ (Ev.pos hh (Ev.now _)), hlen, hsz, hI _ (Ev.pos hh (Ev.now _))⟩
          · obtain ⟨T', n', s', ok, f1, f2, f3, f4⟩ := ih c (T ++ t) n1 s1 (by omega) h7 hlen hsz
            exact ⟨T', n', s', ok, hS _ (Ev.neg hh f1), f2, f3, hI _ (Ev.neg hh f4)⟩
        · refine ⟨T, n, s, false, ?_, h3, h5, ?_⟩
          · refine Ev.step (fun k => by simp only [spec_l12Replay.l0]; rfl) ?_
            refine Ev.pos ha (Ev.bind e1 (Ev.pos rfl ?_))
            simp only [hw]
            rw [decide_eq_true (by omega)]
            refine Ev.step (fun k => by simp only [spec_l12Replay.j1]; rfl) ?_
            exact Ev.pos trivial (Ev.now _)
          · refine hI _ ?_
            by_cases hh : (!(n1 == (headOf (T ++ t)).1) || (!(s1.toList == (headOf (T ++ t)).2.toList))) = true
            · exact Ev.pos hh (Ev.now _)
            · exact Ev.neg hh (impl_many b hb hl L hL N S U (b.length - c) c (T ++ t) (Nat.le_refl _) h7 (by rw [List.length_append]; omega) (by rw [List.length_append]; omega) hsz)
    · refine ⟨T, n, s, true, ?_, h3, h5, ?_⟩
      · refine Ev.step (fun k => by simp only [spec_l12Replay.l0]; rfl) ?_
        exact Ev.neg ha (Ev.now _)
      · refine Ev.step (fun k => by simp only [impl_StoreOk.l0]; rfl) ?_
        exact Ev.neg ha (Ev.bind (impl_same_ev T L (by omega)) (Ev.now _))
/-- A store is right: both say the same of every store. -/
theorem storeOk_both (l : List ByteArray) (n : Int) (s : ByteArray) (b : List Int) (u : Int) (hb : InB b) (hl : b.length ≤ 1048576) (hs : ∀ x ∈ l, x.size ≤ bigB) :
    ∃ r, Ev (fun k => spec_StoreOk.f k l n s b u) r ∧ Ev (fun k => impl_StoreOk.f k l n s b u) r := by
  have jS : Ev (fun k => spec_StoreOk.j0 k true l n s b u) false := by
    refine Ev.step (fun k => by simp only [spec_StoreOk.j0]; rfl) ?_
    exact Ev.pos trivial (Ev.now _)
  have jI : Ev (fun k => impl_StoreOk.j0 k true l n s b u) false := by
    refine Ev.step (fun k => by simp only [impl_StoreOk.j0]; rfl) ?_
    exact Ev.pos trivial (Ev.now _)
  have lS := spec_LogOk_ev l n s hs
  have lI := impl_LogOk_ev l n s hs
  unfold spec_StoreOk.f impl_StoreOk.f
  by_cases h1 : logOk l n s = true
  · by_cases h2 : (b.length : Int) > 60000
    · exact ⟨false, Ev.bind lS (Ev.pos h1 (Ev.pos h2 jS)), Ev.bind lI (Ev.pos h1 (Ev.pos h2 jI))⟩
    · have hlen : l.length ≤ 200 := by
        unfold logOk at h1
        by_cases h : (l.length : Int) ≤ 200
        · omega
        · rw [if_neg h] at h1
          cases h1
      have iS : spec_l1In.f u 0 (b.length : Int) = some (decide (0 ≤ u) && decide (u ≤ (b.length : Int))) := by
        unfold spec_l1In.f
        by_cases h : u ≥ 0
        · rw [if_pos h, decide_eq_true h]
          rfl
        · rw [if_neg h, decide_eq_false h]
          rfl
      have iI : impl_inRange.f u 0 (b.length : Int) = some (decide (0 ≤ u) && decide (u ≤ (b.length : Int))) := by
        unfold impl_inRange.f
        by_cases h : u ≥ 0
        · rw [if_pos h, decide_eq_true h]
          rfl
        · rw [if_neg h, decide_eq_false h]
          rfl
      have fin : ∀ q : Bool, ∃ r, Ev (fun k => spec_StoreOk.j0 k (!q) l n s b u) r ∧ Ev (fun k => impl_StoreOk.j0 k (!q) l n s b u) r := by
        intro q
        cases q with
        | false => exact ⟨false, jS, jI⟩
        | true =>
          obtain ⟨T', n', s', ok, f1, f2, f3, f4⟩ := replay_both b hb hl l hlen n s u b.length 0 [] (headOf []).1 (headOf []).2 (by omega) (by omega) (by simp) (by simp)
          have fI : Ev (fun k => impl_StoreOk.j0 k (!true) l n s b u) (if ok = true then decide (T' = l) else false) := by
            refine Ev.step (fun k => by simp only [impl_StoreOk.j0]; rfl) ?_
            exact Ev.neg (by simp) f4
          have rS : Ev (fun k => spec_l12Replay.f k b) (T', n', s', ok) := by
            unfold spec_l12Replay.f
            exact Ev.bind log_new f1
          refine ⟨_, ?_, fI⟩
          refine Ev.step (fun k => by simp only [spec_StoreOk.j0]; rfl) ?_
          refine Ev.neg (by simp) (Ev.bind rS ?_)
          cases ok with
          | true => exact Ev.pos rfl (Ev.bind (spec_same_ev T' l (by omega)) (Ev.now _))
          | false => exact Ev.neg (by simp) (Ev.now _)
      obtain ⟨r, r1, r2⟩ := fin (decide (0 ≤ u) && decide (u ≤ (b.length : Int)))
      exact ⟨r, Ev.bind lS (Ev.pos h1 (Ev.neg h2 (Ev.bind (Ev.const iS) r1))), Ev.bind lI (Ev.pos h1 (Ev.neg h2 (Ev.bind (Ev.const iI) r2)))⟩
  · exact ⟨false, Ev.bind lS (Ev.neg h1 jS), Ev.bind lI (Ev.neg h1 jI)⟩
end Go.Proofs.Ytjnnglphdaemaaa.Q
end

section
-- Written by a program of this session (wip/tools/pp.sh) over the print of the kit.
namespace Go.Proofs.Ytjnnglphdaemaaa.Q
open Go.RowKit Go.Proofs.YtjnnglphdaemaaaW.PrintWords Go.Proofs.YtjnnglphdaemaaaW.PrintLast Go.Proofs.YtjnnglphdaemaaaW.PrintMore
attribute [local go_sem] max2_int min2_int max_two min_two max_three min_three max_four min_four   -- for this text's walks alone
set_option linter.unusedVariables false
set_option linter.unusedSimpArgs false
def spec_MakeSure.f (k : Nat) (l0_0 : List ByteArray) (a0_1 : Int) (a0_2 : ByteArray) (l0_3 : List Int) (a0_4 : Int) : Option (List ByteArray × Int × ByteArray × List Int × Int) := (spec_l12Copy.f l0_0 a0_1 a0_2 l0_3 a0_4).bind fun bt603 => ((spec_StoreOk.f k l0_0 a0_1 a0_2 l0_3 a0_4).bind fun t613 => (if t613 = true then (some (bt603.1, bt603.2.1, bt603.2.2.1, bt603.2.2.2.1, (bt603.2.2.2.1.length : Int))) else (some (bt603.1, bt603.2.1, bt603.2.2.1, bt603.2.2.2.1, bt603.2.2.2.2))))
theorem spec_MakeSure.mono : ∀ a0 a1 a2 a3 a4 k, LeO (spec_MakeSure.f k a0 a1 a2 a3 a4) (spec_MakeSure.f (k + 1) a0 a1 a2 a3 a4) := by
 intro a0 a1 a2 a3 a4 k
 unfold spec_MakeSure.f
 repeat' (with_reducible first | exact LeO.refl _ | exact LeO.none _ | apply spec_StoreOk.mono | apply LeO.ite | refine LeO.bind ?_ fun _ => ?_)
set_option maxHeartbeats 8000000 in
set_option maxRecDepth 100000 in
theorem spec_MakeSure.calls (k : Nat) (A0_0 : Option Addr) (c0_0 : Nat) (l0_0 : List ByteArray) (a0_1 : Int) (a0_2 : ByteArray) (A0_3 : Option Addr) (c0_3 : Nat) (l0_3 : List Int) (a0_4 : Int) (r1 : List ByteArray) (r2 : Int) (r3 : ByteArray) (r4 : List Int) (r5 : Int) (w : World) (hr0_0 : Kd.C Kd.string w A0_0 l0_0.length l0_0) (hc0_0 : l0_0.length ≤ c0_0) (hr0_3 : Kd.C (Kd.int .u8) w A0_3 l0_3.length l0_3) (hc0_3 : l0_3.length ≤ c0_3) (h : spec_MakeSure.f k l0_0 a0_1 a0_2 l0_3 a0_4 = some (r1, r2, r3, r4, r5)) :
  Calls Try.prog 45 #[.agg #[.slice A0_0 l0_0.length c0_0, .int .i64 a0_1, .string a0_2, .slice A0_3 l0_3.length c0_3, .int .i64 a0_4]] w fun e w' => ∃ v0_ v3_ : Value, e = .returned (.agg #[v0_, .int .i64 r2, .string r3, v3_, .int .i64 r5]) ∧ Kd.R Kd.string 9 w' w.heap.size (fun _ => True) v0_ r1 ∧ Kd.R (Kd.int .u8) 5 w' w.heap.size (fun _ => True) v3_ r4 ∧ Below w.heap.size w w' := by
 have hu37 := Try.underlying37
 have HR0_0 := Aside0.mk hr0_0
 have HC0_0 := Aside0.mk hc0_0
 clear hr0_0 hc0_0
 have HR0_3 := Aside0.mk hr0_3
 have HC0_3 := Aside0.mk hc0_3
 clear hr0_3 hc0_3
 have HB := Aside0.mk (Below.refl w.heap.size w)
 have H : ((spec_l12Copy.f l0_0 a0_1 a0_2 l0_3 a0_4).bind fun bt603 => ((spec_StoreOk.f k l0_0 a0_1 a0_2 l0_3 a0_4).bind fun t613 => (if t613 = true then (some (bt603.1, bt603.2.1, bt603.2.2.1, bt603.2.2.2.1, (bt603.2.2.2.1.length : Int))) else (some (bt603.1, bt603.2.1, bt603.2.2.1, bt603.2.2.2.1, bt603.2.2.2.2))))) = some (r1, r2, r3, r4, r5) := h
 clear h
 replace H := bi_ H; obtain ⟨⟨t603, t606, t607, t608, t611⟩, A2, H⟩ := H
 dsimp only at H
 replace H := bi_ H; obtain ⟨t613, A3, H⟩ := H
 replace H := itb_ H; obtain ⟨rfl, H⟩ | ⟨rfl, H⟩ := H
 ·replace H := so5_ H; obtain ⟨rfl, rfl, rfl, rfl, rfl⟩ := H
  go_enter Try.func45, Try.ntmps45
  go_wp2_with (first | ((with_reducible refine gd_ 1 ?_); refine bx_ 1 37 #[.slice A0_0 l0_0.length c0_0, .int .i64 a0_1, .string a0_2, .slice A0_3 l0_3.length c0_3, .int .i64 a0_4] ?_; intro gb601 hg w5 hbox hb; have BK601 := Aside0.mk hbox; have GW601 := gg_ hg HB; have GE601 := GW601; replace HB := ss_ HB hb; clear hb hbox hg) | ((with_reducible refine gd_ 2 ?_); refine bx_ 2 37 #[.slice none 0 0, .int .i64 0, .string (⟨#[]⟩ : ByteArray), .slice none 0 0, .int .i64 0] ?_; intro gb602 hg w6 hbox hb; have BK602 := Aside0.mk hbox; have GW602 := gg_ hg HB; have GE602 := GW602; replace HB := ss_ HB hb; have NB601_602 := nla_ hg BK601; have NB602_601 := nga_ hg BK601; replace BK601 := kl_ BK601 hb; clear hb hbox hg; have hnb7 := NB601_602.out; have hnc7 := NB602_601.out; have hz8 := cz5_ BK601) | ((with_reducible refine gq_ 87 5 ?_); refine gc_ 5 Try.func87 (spec_l12Copy.calls _ _ l0_0 a0_1 a0_2 _ _ l0_3 a0_4 t603 t606 t607 t608 t611 _ (cb_ HR0_0 HB) HC0_0.out (cb_ HR0_3 HB) HC0_3.out A2.out) ?_; rintro e w9 ⟨v604, v609, rfl, ho0, ho1, hb⟩; refine ⟨_, rfl, ?_⟩; have HO605 := Aside0.mk (Kd.R_lower ho0 (sz_ HB)); have HO610 := Aside0.mk (Kd.R_lower ho1 (sz_ HB)); replace BK601 := kl_ BK601 hb; replace BK602 := kl_ BK602 hb; replace HB := ss_ HB hb; clear hb ho0 ho1) | ((with_reducible refine gd_ 3 ?_); refine bx_ 3 37 #[.slice none 0 0, .int .i64 0, .string (⟨#[]⟩ : ByteArray), .slice none 0 0, .int .i64 0] ?_; intro gb612 hg w10 hbox hb; replace HO605 := rb_ HO605 hb; replace HO610 := rb_ HO610 hb; have BK612 := Aside0.mk hbox; have GW612 := gg_ hg HB; have GE612 := GW612; replace HB := ss_ HB hb; have NB601_612 := nla_ hg BK601; have NB612_601 := nga_ hg BK601; replace BK601 := kl_ BK601 hb; have NB602_612 := Aside0.mk ((by rw [hg]; exact Nat.ne_of_lt (blk_lt (kb_ BK602.out)) : gb602 ≠ gb612)); have NB612_602 := Aside0.mk ((by rw [hg]; exact Nat.ne_of_gt (blk_lt (kb_ BK602.out)) : gb612 ≠ gb602)); replace BK602 := kl_ BK602 hb; clear hb hbox hg; obtain ⟨Ao11, co11, eo11⟩ := Kd.R_slice HO605.out; subst eo11; have hnb12 := NB612_601.out; have hnc12 := NB601_612.out; have hnb13 := NB612_602.out; have hnc13 := NB602_612.out; have hz14 := cz5_ BK612; obtain ⟨Ao15, co15, eo15⟩ := Kd.R_slice HO610.out; subst eo15; have hz16 := cz5_ BK601) | ((with_reducible refine gq_ 88 7 ?_); refine gc_ 7 Try.func88 (spec_StoreOk.calls k _ _ l0_0 a0_1 a0_2 _ _ l0_3 a0_4 true _ (Kd.C_below HR0_0.out (bw_ HB)) HC0_0.out (Kd.C_below HR0_3.out (bw_ HB)) HC0_3.out A3.out) ?_; rintro e w17 ⟨rfl, hb⟩; refine ⟨_, rfl, ?_⟩; replace HO605 := rbf_ HO605 BK612 hb; replace HO610 := rbf_ HO610 BK612 hb; replace BK601 := kp_ BK601 hb; replace BK602 := kp_ BK602 hb; replace BK612 := kp_ BK612 hb; replace HB := ss_ HB hb; clear hb; have hz18 := cz5_ BK612; have hz19 := cz5_ BK602))
  refine bodyPost_ret (results_cell_row rfl _ _ gb602 37 #[.slice Ao11 t603.length co11, .int .i64 t606, .string t607, .slice Ao15 t608.length co15, .int .i64 (t608.length : Int)] (0, 0) _ rfl (by exact kq_ BK602) Try.underlying37 rfl (by kernel_rfl)) rfl ?_
  exact ⟨_, _, e2_, by (with_reducible repeat (first | apply Kd.R_alloc | apply Kd.R_drewN | apply Kd.R_drew)); exact Kd.R_mono (Kd.R_far (p := ⟨gb602, 4, none⟩) (Kd.R_far (p := ⟨gb602, 3, none⟩) (Kd.R_far (p := ⟨gb602, 2, none⟩) (Kd.R_far (p := ⟨gb602, 1, none⟩) (Kd.R_far (p := ⟨gb602, 0, none⟩) (Kd.R_far (p := ⟨gb612, 4, none⟩) (Kd.R_types (Kd.R_types HO605.out BK612.out (by decide)) BK602.out (by decide)) (fun _ hk => hk.1.2) (.int .i64 (t608.length : Int))) (fun _ hk => hk.2) (.slice Ao11 t603.length co11)) (fun _ hk => hk.2) (.int .i64 t606)) (fun _ hk => hk.2) (.string t607)) (fun _ hk => hk.2) (.slice Ao15 t608.length co15)) (fun _ hk => hk.2) (.int .i64 (t608.length : Int))) (fun _ hk => trivial), by (with_reducible repeat (first | apply Kd.R_alloc | apply Kd.R_drewN | apply Kd.R_drew)); exact Kd.R_mono (Kd.R_far (p := ⟨gb602, 4, none⟩) (Kd.R_far (p := ⟨gb602, 3, none⟩) (Kd.R_far (p := ⟨gb602, 2, none⟩) (Kd.R_far (p := ⟨gb602, 1, none⟩) (Kd.R_far (p := ⟨gb602, 0, none⟩) (Kd.R_far (p := ⟨gb612, 4, none⟩) (Kd.R_types (Kd.R_types HO610.out BK612.out (by decide)) BK602.out (by decide)) (fun _ hk => hk.1.2) (.int .i64 (t608.length : Int))) (fun _ hk => hk.2) (.slice Ao11 t603.length co11)) (fun _ hk => hk.2) (.int .i64 t606)) (fun _ hk => hk.2) (.string t607)) (fun _ hk => hk.2) (.slice Ao15 t608.length co15)) (fun _ hk => hk.2) (.int .i64 (t608.length : Int))) (fun _ hk => trivial), bw_ HB⟩
 ·replace H := so5_ H; obtain ⟨rfl, rfl, rfl, rfl, rfl⟩ := H
  go_enter Try.func45, Try.ntmps45
  go_wp2_with (first | ((with_reducible refine gd_ 1 ?_); refine bx_ 1 37 #[.slice A0_0 l0_0.length c0_0, .int .i64 a0_1, .string a0_2, .slice A0_3 l0_3.length c0_3, .int .i64 a0_4] ?_; intro gb601 hg w20 hbox hb; have BK601 := Aside0.mk hbox; have GW601 := gg_ hg HB; have GE601 := GW601; replace HB := ss_ HB hb; clear hb hbox hg) | ((with_reducible refine gd_ 2 ?_); refine bx_ 2 37 #[.slice none 0 0, .int .i64 0, .string (⟨#[]⟩ : ByteArray), .slice none 0 0, .int .i64 0] ?_; intro gb602 hg w21 hbox hb; have BK602 := Aside0.mk hbox; have GW602 := gg_ hg HB; have GE602 := GW602; replace HB := ss_ HB hb; have NB601_602 := nla_ hg BK601; have NB602_601 := nga_ hg BK601; replace BK601 := kl_ BK601 hb; clear hb hbox hg; have hnb22 := NB601_602.out; have hnc22 := NB602_601.out; have hz23 := cz5_ BK601) | ((with_reducible refine gq_ 87 5 ?_); refine gc_ 5 Try.func87 (spec_l12Copy.calls _ _ l0_0 a0_1 a0_2 _ _ l0_3 a0_4 t603 t606 t607 t608 t611 _ (cb_ HR0_0 HB) HC0_0.out (cb_ HR0_3 HB) HC0_3.out A2.out) ?_; rintro e w24 ⟨v604, v609, rfl, ho0, ho1, hb⟩; refine ⟨_, rfl, ?_⟩; have HO605 := Aside0.mk (Kd.R_lower ho0 (sz_ HB)); have HO610 := Aside0.mk (Kd.R_lower ho1 (sz_ HB)); replace BK601 := kl_ BK601 hb; replace BK602 := kl_ BK602 hb; replace HB := ss_ HB hb; clear hb ho0 ho1) | ((with_reducible refine gd_ 3 ?_); refine bx_ 3 37 #[.slice none 0 0, .int .i64 0, .string (⟨#[]⟩ : ByteArray), .slice none 0 0, .int .i64 0] ?_; intro gb612 hg w25 hbox hb; replace HO605 := rb_ HO605 hb; replace HO610 := rb_ HO610 hb; have BK612 := Aside0.mk hbox; have GW612 := gg_ hg HB; have GE612 := GW612; replace HB := ss_ HB hb; have NB601_612 := nla_ hg BK601; have NB612_601 := nga_ hg BK601; replace BK601 := kl_ BK601 hb; have NB602_612 := Aside0.mk ((by rw [hg]; exact Nat.ne_of_lt (blk_lt (kb_ BK602.out)) : gb602 ≠ gb612)); have NB612_602 := Aside0.mk ((by rw [hg]; exact Nat.ne_of_gt (blk_lt (kb_ BK602.out)) : gb612 ≠ gb602)); replace BK602 := kl_ BK602 hb; clear hb hbox hg; obtain ⟨Ao26, co26, eo26⟩ := Kd.R_slice HO605.out; subst eo26; have hnb27 := NB612_601.out; have hnc27 := NB601_612.out; have hnb28 := NB612_602.out; have hnc28 := NB602_612.out; have hz29 := cz5_ BK612; obtain ⟨Ao30, co30, eo30⟩ := Kd.R_slice HO610.out; subst eo30; have hz31 := cz5_ BK601) | ((with_reducible refine gq_ 88 7 ?_); refine gc_ 7 Try.func88 (spec_StoreOk.calls k _ _ l0_0 a0_1 a0_2 _ _ l0_3 a0_4 false _ (Kd.C_below HR0_0.out (bw_ HB)) HC0_0.out (Kd.C_below HR0_3.out (bw_ HB)) HC0_3.out A3.out) ?_; rintro e w32 ⟨rfl, hb⟩; refine ⟨_, rfl, ?_⟩; replace HO605 := rbf_ HO605 BK612 hb; replace HO610 := rbf_ HO610 BK612 hb; replace BK601 := kp_ BK601 hb; replace BK602 := kp_ BK602 hb; replace BK612 := kp_ BK612 hb; replace HB := ss_ HB hb; clear hb; have hz33 := cz5_ BK612; have hz34 := cz5_ BK602))
  refine bodyPost_ret (results_cell_row rfl _ _ gb602 37 #[.slice Ao26 t603.length co26, .int .i64 t606, .string t607, .slice Ao30 t608.length co30, .int .i64 t611] (0, 0) _ rfl (by exact kq_ BK602) Try.underlying37 rfl (by kernel_rfl)) rfl ?_
  exact ⟨_, _, e2_, by (with_reducible repeat (first | apply Kd.R_alloc | apply Kd.R_drewN | apply Kd.R_drew)); exact Kd.R_mono (Kd.R_far (p := ⟨gb602, 4, none⟩) (Kd.R_far (p := ⟨gb602, 3, none⟩) (Kd.R_far (p := ⟨gb602, 2, none⟩) (Kd.R_far (p := ⟨gb602, 1, none⟩) (Kd.R_far (p := ⟨gb602, 0, none⟩) (Kd.R_types HO605.out BK602.out (by decide)) (fun _ hk => hk.2) (.slice Ao26 t603.length co26)) (fun _ hk => hk.2) (.int .i64 t606)) (fun _ hk => hk.2) (.string t607)) (fun _ hk => hk.2) (.slice Ao30 t608.length co30)) (fun _ hk => hk.2) (.int .i64 t611)) (fun _ hk => trivial), by (with_reducible repeat (first | apply Kd.R_alloc | apply Kd.R_drewN | apply Kd.R_drew)); exact Kd.R_mono (Kd.R_far (p := ⟨gb602, 4, none⟩) (Kd.R_far (p := ⟨gb602, 3, none⟩) (Kd.R_far (p := ⟨gb602, 2, none⟩) (Kd.R_far (p := ⟨gb602, 1, none⟩) (Kd.R_far (p := ⟨gb602, 0, none⟩) (Kd.R_types HO610.out BK602.out (by decide)) (fun _ hk => hk.2) (.slice Ao26 t603.length co26)) (fun _ hk => hk.2) (.int .i64 t606)) (fun _ hk => hk.2) (.string t607)) (fun _ hk => hk.2) (.slice Ao30 t608.length co30)) (fun _ hk => hk.2) (.int .i64 t611)) (fun _ hk => trivial), bw_ HB⟩
end Go.Proofs.Ytjnnglphdaemaaa.Q
end

section
-- Written by a program of this session (wip/tools/pp.sh) over the print of the kit.
namespace Go.Proofs.Ytjnnglphdaemaaa.Q
open Go.RowKit Go.Proofs.YtjnnglphdaemaaaW.PrintWords Go.Proofs.YtjnnglphdaemaaaW.PrintLast Go.Proofs.YtjnnglphdaemaaaW.PrintMore
attribute [local go_sem] max2_int min2_int max_two min_two max_three min_three max_four min_four   -- for this text's walks alone
set_option linter.unusedVariables false
set_option linter.unusedSimpArgs false
def impl_MakeSure.f (k : Nat) (l0_0 : List ByteArray) (a0_1 : Int) (a0_2 : ByteArray) (l0_3 : List Int) (a0_4 : Int) : Option (List ByteArray × Int × ByteArray × List Int × Int) := (impl_copyStore.f l0_0 a0_1 a0_2 l0_3 a0_4).bind fun bt603 => ((impl_StoreOk.f k l0_0 a0_1 a0_2 l0_3 a0_4).bind fun t613 => (if t613 = true then (some (bt603.1, bt603.2.1, bt603.2.2.1, bt603.2.2.2.1, (l0_3.length : Int))) else (some (bt603.1, bt603.2.1, bt603.2.2.1, bt603.2.2.2.1, bt603.2.2.2.2))))
theorem impl_MakeSure.mono : ∀ a0 a1 a2 a3 a4 k, LeO (impl_MakeSure.f k a0 a1 a2 a3 a4) (impl_MakeSure.f (k + 1) a0 a1 a2 a3 a4) := by
 intro a0 a1 a2 a3 a4 k
 unfold impl_MakeSure.f
 repeat' (with_reducible first | exact LeO.refl _ | exact LeO.none _ | apply impl_StoreOk.mono | apply LeO.ite | refine LeO.bind ?_ fun _ => ?_)
set_option maxHeartbeats 8000000 in
set_option maxRecDepth 100000 in
theorem impl_MakeSure.calls (k : Nat) (A0_0 : Option Addr) (c0_0 : Nat) (l0_0 : List ByteArray) (a0_1 : Int) (a0_2 : ByteArray) (A0_3 : Option Addr) (c0_3 : Nat) (l0_3 : List Int) (a0_4 : Int) (r1 : List ByteArray) (r2 : Int) (r3 : ByteArray) (r4 : List Int) (r5 : Int) (w : World) (hr0_0 : Kd.C Kd.string w A0_0 l0_0.length l0_0) (hc0_0 : l0_0.length ≤ c0_0) (hr0_3 : Kd.C (Kd.int .u8) w A0_3 l0_3.length l0_3) (hc0_3 : l0_3.length ≤ c0_3) (h : impl_MakeSure.f k l0_0 a0_1 a0_2 l0_3 a0_4 = some (r1, r2, r3, r4, r5)) :
  Calls Try.prog 42 #[.agg #[.slice A0_0 l0_0.length c0_0, .int .i64 a0_1, .string a0_2, .slice A0_3 l0_3.length c0_3, .int .i64 a0_4]] w fun e w' => ∃ v0_ v3_ : Value, e = .returned (.agg #[v0_, .int .i64 r2, .string r3, v3_, .int .i64 r5]) ∧ Kd.R Kd.string 9 w' w.heap.size (fun _ => True) v0_ r1 ∧ Kd.R (Kd.int .u8) 5 w' w.heap.size (fun _ => True) v3_ r4 ∧ Below w.heap.size w w' := by
 have hu37 := Try.underlying37
 have HR0_0 := Aside0.mk hr0_0
 have HC0_0 := Aside0.mk hc0_0
 clear hr0_0 hc0_0
 have HR0_3 := Aside0.mk hr0_3
 have HC0_3 := Aside0.mk hc0_3
 clear hr0_3 hc0_3
 have HB := Aside0.mk (Below.refl w.heap.size w)
 have H : ((impl_copyStore.f l0_0 a0_1 a0_2 l0_3 a0_4).bind fun bt603 => ((impl_StoreOk.f k l0_0 a0_1 a0_2 l0_3 a0_4).bind fun t613 => (if t613 = true then (some (bt603.1, bt603.2.1, bt603.2.2.1, bt603.2.2.2.1, (l0_3.length : Int))) else (some (bt603.1, bt603.2.1, bt603.2.2.1, bt603.2.2.2.1, bt603.2.2.2.2))))) = some (r1, r2, r3, r4, r5) := h
 clear h
 replace H := bi_ H; obtain ⟨⟨t603, t606, t607, t608, t611⟩, A2, H⟩ := H
 dsimp only at H
 replace H := bi_ H; obtain ⟨t613, A3, H⟩ := H
 replace H := itb_ H; obtain ⟨rfl, H⟩ | ⟨rfl, H⟩ := H
 ·replace H := so5_ H; obtain ⟨rfl, rfl, rfl, rfl, rfl⟩ := H
  go_enter Try.func42, Try.ntmps42
  go_wp2_with (first | ((with_reducible refine gd_ 1 ?_); refine bx_ 1 37 #[.slice A0_0 l0_0.length c0_0, .int .i64 a0_1, .string a0_2, .slice A0_3 l0_3.length c0_3, .int .i64 a0_4] ?_; intro gb601 hg w5 hbox hb; have BK601 := Aside0.mk hbox; have GW601 := gg_ hg HB; have GE601 := GW601; replace HB := ss_ HB hb; clear hb hbox hg) | ((with_reducible refine gd_ 2 ?_); refine bx_ 2 37 #[.slice none 0 0, .int .i64 0, .string (⟨#[]⟩ : ByteArray), .slice none 0 0, .int .i64 0] ?_; intro gb602 hg w6 hbox hb; have BK602 := Aside0.mk hbox; have GW602 := gg_ hg HB; have GE602 := GW602; replace HB := ss_ HB hb; have NB601_602 := nla_ hg BK601; have NB602_601 := nga_ hg BK601; replace BK601 := kl_ BK601 hb; clear hb hbox hg; have hnb7 := NB601_602.out; have hnc7 := NB602_601.out; have hz8 := cz5_ BK601) | ((with_reducible refine gq_ 65 5 ?_); refine gc_ 5 Try.func65 (impl_copyStore.calls _ _ l0_0 a0_1 a0_2 _ _ l0_3 a0_4 t603 t606 t607 t608 t611 _ (cb_ HR0_0 HB) HC0_0.out (cb_ HR0_3 HB) HC0_3.out A2.out) ?_; rintro e w9 ⟨v604, v609, rfl, ho0, ho1, hb⟩; refine ⟨_, rfl, ?_⟩; have HO605 := Aside0.mk (Kd.R_lower ho0 (sz_ HB)); have HO610 := Aside0.mk (Kd.R_lower ho1 (sz_ HB)); replace BK601 := kl_ BK601 hb; replace BK602 := kl_ BK602 hb; replace HB := ss_ HB hb; clear hb ho0 ho1) | ((with_reducible refine gd_ 3 ?_); refine bx_ 3 37 #[.slice none 0 0, .int .i64 0, .string (⟨#[]⟩ : ByteArray), .slice none 0 0, .int .i64 0] ?_; intro gb612 hg w10 hbox hb; replace HO605 := rb_ HO605 hb; replace HO610 := rb_ HO610 hb; have BK612 := Aside0.mk hbox; have GW612 := gg_ hg HB; have GE612 := GW612; replace HB := ss_ HB hb; have NB601_612 := nla_ hg BK601; have NB612_601 := nga_ hg BK601; replace BK601 := kl_ BK601 hb; have NB602_612 := Aside0.mk ((by rw [hg]; exact Nat.ne_of_lt (blk_lt (kb_ BK602.out)) : gb602 ≠ gb612)); have NB612_602 := Aside0.mk ((by rw [hg]; exact Nat.ne_of_gt (blk_lt (kb_ BK602.out)) : gb612 ≠ gb602)); replace BK602 := kl_ BK602 hb; clear hb hbox hg; obtain ⟨Ao11, co11, eo11⟩ := Kd.R_slice HO605.out; subst eo11; have hnb12 := NB612_601.out; have hnc12 := NB601_612.out; have hnb13 := NB612_602.out; have hnc13 := NB602_612.out; have hz14 := cz5_ BK612; obtain ⟨Ao15, co15, eo15⟩ := Kd.R_slice HO610.out; subst eo15; have hz16 := cz5_ BK601) | ((with_reducible refine gq_ 19 7 ?_); refine gc_ 7 Try.func19 (impl_StoreOk.calls k _ _ l0_0 a0_1 a0_2 _ _ l0_3 a0_4 true _ (Kd.C_below HR0_0.out (bw_ HB)) HC0_0.out (Kd.C_below HR0_3.out (bw_ HB)) HC0_3.out A3.out) ?_; rintro e w17 ⟨rfl, hb⟩; refine ⟨_, rfl, ?_⟩; replace HO605 := rbf_ HO605 BK612 hb; replace HO610 := rbf_ HO610 BK612 hb; replace BK601 := kp_ BK601 hb; replace BK602 := kp_ BK602 hb; replace BK612 := kp_ BK612 hb; replace HB := ss_ HB hb; clear hb; have hz18 := cz5_ BK601; have hz19 := cz5_ BK612; have hz20 := cz5_ BK602))
  refine bodyPost_ret (results_cell_row rfl _ _ gb602 37 #[.slice Ao11 t603.length co11, .int .i64 t606, .string t607, .slice Ao15 t608.length co15, .int .i64 (l0_3.length : Int)] (0, 0) _ rfl (by exact kq_ BK602) Try.underlying37 rfl (by kernel_rfl)) rfl ?_
  exact ⟨_, _, e2_, by (with_reducible repeat (first | apply Kd.R_alloc | apply Kd.R_drewN | apply Kd.R_drew)); exact Kd.R_mono (Kd.R_far (p := ⟨gb602, 4, none⟩) (Kd.R_far (p := ⟨gb602, 3, none⟩) (Kd.R_far (p := ⟨gb602, 2, none⟩) (Kd.R_far (p := ⟨gb602, 1, none⟩) (Kd.R_far (p := ⟨gb602, 0, none⟩) (Kd.R_far (p := ⟨gb612, 4, none⟩) (Kd.R_types (Kd.R_types HO605.out BK612.out (by decide)) BK602.out (by decide)) (fun _ hk => hk.1.2) (.int .i64 (l0_3.length : Int))) (fun _ hk => hk.2) (.slice Ao11 t603.length co11)) (fun _ hk => hk.2) (.int .i64 t606)) (fun _ hk => hk.2) (.string t607)) (fun _ hk => hk.2) (.slice Ao15 t608.length co15)) (fun _ hk => hk.2) (.int .i64 (l0_3.length : Int))) (fun _ hk => trivial), by (with_reducible repeat (first | apply Kd.R_alloc | apply Kd.R_drewN | apply Kd.R_drew)); exact Kd.R_mono (Kd.R_far (p := ⟨gb602, 4, none⟩) (Kd.R_far (p := ⟨gb602, 3, none⟩) (Kd.R_far (p := ⟨gb602, 2, none⟩) (Kd.R_far (p := ⟨gb602, 1, none⟩) (Kd.R_far (p := ⟨gb602, 0, none⟩) (Kd.R_far (p := ⟨gb612, 4, none⟩) (Kd.R_types (Kd.R_types HO610.out BK612.out (by decide)) BK602.out (by decide)) (fun _ hk => hk.1.2) (.int .i64 (l0_3.length : Int))) (fun _ hk => hk.2) (.slice Ao11 t603.length co11)) (fun _ hk => hk.2) (.int .i64 t606)) (fun _ hk => hk.2) (.string t607)) (fun _ hk => hk.2) (.slice Ao15 t608.length co15)) (fun _ hk => hk.2) (.int .i64 (l0_3.length : Int))) (fun _ hk => trivial), bw_ HB⟩
 ·replace H := so5_ H; obtain ⟨rfl, rfl, rfl, rfl, rfl⟩ := H
  go_enter Try.func42, Try.ntmps42
  go_wp2_with (first | ((with_reducible refine gd_ 1 ?_); refine bx_ 1 37 #[.slice A0_0 l0_0.length c0_0, .int .i64 a0_1, .string a0_2, .slice A0_3 l0_3.length c0_3, .int .i64 a0_4] ?_; intro gb601 hg w21 hbox hb; have BK601 := Aside0.mk hbox; have GW601 := gg_ hg HB; have GE601 := GW601; replace HB := ss_ HB hb; clear hb hbox hg) | ((with_reducible refine gd_ 2 ?_); refine bx_ 2 37 #[.slice none 0 0, .int .i64 0, .string (⟨#[]⟩ : ByteArray), .slice none 0 0, .int .i64 0] ?_; intro gb602 hg w22 hbox hb; have BK602 := Aside0.mk hbox; have GW602 := gg_ hg HB; have GE602 := GW602; replace HB := ss_ HB hb; have NB601_602 := nla_ hg BK601; have NB602_601 := nga_ hg BK601; replace BK601 := kl_ BK601 hb; clear hb hbox hg; have hnb23 := NB601_602.out; have hnc23 := NB602_601.out; have hz24 := cz5_ BK601) | ((with_reducible refine gq_ 65 5 ?_); refine gc_ 5 Try.func65 (impl_copyStore.calls _ _ l0_0 a0_1 a0_2 _ _ l0_3 a0_4 t603 t606 t607 t608 t611 _ (cb_ HR0_0 HB) HC0_0.out (cb_ HR0_3 HB) HC0_3.out A2.out) ?_; rintro e w25 ⟨v604, v609, rfl, ho0, ho1, hb⟩; refine ⟨_, rfl, ?_⟩; have HO605 := Aside0.mk (Kd.R_lower ho0 (sz_ HB)); have HO610 := Aside0.mk (Kd.R_lower ho1 (sz_ HB)); replace BK601 := kl_ BK601 hb; replace BK602 := kl_ BK602 hb; replace HB := ss_ HB hb; clear hb ho0 ho1) | ((with_reducible refine gd_ 3 ?_); refine bx_ 3 37 #[.slice none 0 0, .int .i64 0, .string (⟨#[]⟩ : ByteArray), .slice none 0 0, .int .i64 0] ?_; intro gb612 hg w26 hbox hb; replace HO605 := rb_ HO605 hb; replace HO610 := rb_ HO610 hb; have BK612 := Aside0.mk hbox; have GW612 := gg_ hg HB; have GE612 := GW612; replace HB := ss_ HB hb; have NB601_612 := nla_ hg BK601; have NB612_601 := nga_ hg BK601; replace BK601 := kl_ BK601 hb; have NB602_612 := Aside0.mk ((by rw [hg]; exact Nat.ne_of_lt (blk_lt (kb_ BK602.out)) : gb602 ≠ gb612)); have NB612_602 := Aside0.mk ((by rw [hg]; exact Nat.ne_of_gt (blk_lt (kb_ BK602.out)) : gb612 ≠ gb602)); replace BK602 := kl_ BK602 hb; clear hb hbox hg; obtain ⟨Ao27, co27, eo27⟩ := Kd.R_slice HO605.out; subst eo27; have hnb28 := NB612_601.out; have hnc28 := NB601_612.out; have hnb29 := NB612_602.out; have hnc29 := NB602_612.out; have hz30 := cz5_ BK612; obtain ⟨Ao31, co31, eo31⟩ := Kd.R_slice HO610.out; subst eo31; have hz32 := cz5_ BK601) | ((with_reducible refine gq_ 19 7 ?_); refine gc_ 7 Try.func19 (impl_StoreOk.calls k _ _ l0_0 a0_1 a0_2 _ _ l0_3 a0_4 false _ (Kd.C_below HR0_0.out (bw_ HB)) HC0_0.out (Kd.C_below HR0_3.out (bw_ HB)) HC0_3.out A3.out) ?_; rintro e w33 ⟨rfl, hb⟩; refine ⟨_, rfl, ?_⟩; replace HO605 := rbf_ HO605 BK612 hb; replace HO610 := rbf_ HO610 BK612 hb; replace BK601 := kp_ BK601 hb; replace BK602 := kp_ BK602 hb; replace BK612 := kp_ BK612 hb; replace HB := ss_ HB hb; clear hb; have hz34 := cz5_ BK612; have hz35 := cz5_ BK602))
  refine bodyPost_ret (results_cell_row rfl _ _ gb602 37 #[.slice Ao27 t603.length co27, .int .i64 t606, .string t607, .slice Ao31 t608.length co31, .int .i64 t611] (0, 0) _ rfl (by exact kq_ BK602) Try.underlying37 rfl (by kernel_rfl)) rfl ?_
  exact ⟨_, _, e2_, by (with_reducible repeat (first | apply Kd.R_alloc | apply Kd.R_drewN | apply Kd.R_drew)); exact Kd.R_mono (Kd.R_far (p := ⟨gb602, 4, none⟩) (Kd.R_far (p := ⟨gb602, 3, none⟩) (Kd.R_far (p := ⟨gb602, 2, none⟩) (Kd.R_far (p := ⟨gb602, 1, none⟩) (Kd.R_far (p := ⟨gb602, 0, none⟩) (Kd.R_types HO605.out BK602.out (by decide)) (fun _ hk => hk.2) (.slice Ao27 t603.length co27)) (fun _ hk => hk.2) (.int .i64 t606)) (fun _ hk => hk.2) (.string t607)) (fun _ hk => hk.2) (.slice Ao31 t608.length co31)) (fun _ hk => hk.2) (.int .i64 t611)) (fun _ hk => trivial), by (with_reducible repeat (first | apply Kd.R_alloc | apply Kd.R_drewN | apply Kd.R_drew)); exact Kd.R_mono (Kd.R_far (p := ⟨gb602, 4, none⟩) (Kd.R_far (p := ⟨gb602, 3, none⟩) (Kd.R_far (p := ⟨gb602, 2, none⟩) (Kd.R_far (p := ⟨gb602, 1, none⟩) (Kd.R_far (p := ⟨gb602, 0, none⟩) (Kd.R_types HO610.out BK602.out (by decide)) (fun _ hk => hk.2) (.slice Ao27 t603.length co27)) (fun _ hk => hk.2) (.int .i64 t606)) (fun _ hk => hk.2) (.string t607)) (fun _ hk => hk.2) (.slice Ao31 t608.length co31)) (fun _ hk => hk.2) (.int .i64 t611)) (fun _ hk => trivial), bw_ HB⟩
end Go.Proofs.Ytjnnglphdaemaaa.Q
end

section
/- MakeSure, the program's and the reference's: they return the same. -/
namespace Go.Proofs.Ytjnnglphdaemaaa.Q
open Go.RowKit Go.Proofs.Ytjnnglphdaemaaa.B Go.Proofs.YtjnnglphdaemaaaW.PrintWords
theorem makeSure_both (l : List ByteArray) (n : Int) (s : ByteArray) (b : List Int) (u : Int) (hb : InB b) (hl : b.length ≤ 1048576) (hk : l.length ≤ 1048576) (hs : ∀ x ∈ l, x.size ≤ bigB) :
    ∃ v, Ev (fun k => spec_MakeSure.f k l n s b u) (l, n, s, b, v) ∧ Ev (fun k => impl_MakeSure.f k l n s b u) (l, n, s, b, v) := by
  obtain ⟨q, q1, q2⟩ := storeOk_both l n s b u hb hl hs
  have c1 := spec_l12Copy_eq l n s b u (by omega) (by omega)
  have c2 := impl_copyStore_eq l n s b u (by omega) (by omega)
  unfold spec_MakeSure.f impl_MakeSure.f
  simp only [c1, c2, Option.bind_some]
  cases q with
  | true => exact ⟨_, Ev.bind q1 (Ev.pos rfl (Ev.now _)), Ev.bind q2 (Ev.pos rfl (Ev.now _))⟩
  | false => exact ⟨_, Ev.bind q1 (Ev.neg (by simp) (Ev.now _)), Ev.bind q2 (Ev.neg (by simp) (Ev.now _))⟩
end Go.Proofs.Ytjnnglphdaemaaa.Q
end

section
/- Arguments that were read as data, opened as Lean values: numbers, bools, strings, slices of whatever kind; structs by their fields. For the rows of this seat's laws. -/
namespace Go.Proofs.Ytjnnglphdaemaaa.XO
open Go.RowKit Go.Proofs.YtjnnglphdaemaaaW.PrintWords Go.ChangeShapes Go.WideShapes

/-- What reads as data of type t is a Lean value of kind d, and good. -/
def Opens {α : Type} (P : Program) (d : Kd α) (t : TypeId) (G : α → Prop) : Prop :=
  ∀ {H : Type} {enc : TypeId × Value → H} {w : World} {base : Nat} {spare : Nat → Bool} {held : Bool} {fuel : Nat} {cs : List Value} {x : DataW H × List MemPlace},
    DataW.trod enc P w base spare held fuel t cs = some x → ∃ a : α, d.K w a cs ∧ G a

variable {P : Program} {t : TypeId}

theorem add_add (a : Addr) (x i : Nat) : (a.add x).add i = a.add (x + i) := by
  unfold Addr.add
  by_cases hx : x = 0
  · subst hx
    simp
  · by_cases hi : i = 0
    · subst hi
      simp
    · simp [hx, hi, Nat.add_assoc]
theorem cells_read {w : World} {base : Nat} {a : Addr} {x n : Nat} {cs : List Value} (h : w.cells? base (a.add x) n = some cs) (i : Nat) (u : Value) (hu : cs[i]? = some u) : w.cell? (a.add (x + i)) = some u := by
  unfold World.cells? at h
  split at h
  · have hl : cs.length = n := by simpa using mapM_some_length h
    have hi : i < n := by
      rw [← hl]
      exact (List.getElem?_eq_some_iff.1 hu).1
    have hg := mapM_some_get h i i (by simp [hi])
    rw [hu, add_add] at hg
    exact hg
  · exact absurd h (by simp)

theorem family {α : Type} {p : Nat → α → Prop} (n : Nat) (h : ∀ i, i < n → ∃ x, p i x) : ∃ xs : List α, xs.length = n ∧ ∀ i x, xs[i]? = some x → p i x := by
  induction n with
  | zero => exact ⟨[], rfl, fun i x hx => by simp at hx⟩
  | succ n ih =>
    obtain ⟨xs, h1, h2⟩ := ih (fun i hi => h i (by omega))
    obtain ⟨y, hy⟩ := h n (by omega)
    refine ⟨xs ++ [y], by simp [h1], fun i x hx => ?_⟩
    by_cases hi : i < xs.length
    · rw [List.getElem?_append_left hi] at hx
      exact h2 i x hx
    · rw [List.getElem?_append_right (by omega)] at hx
      have hz : i - xs.length = 0 := by
        rcases Nat.eq_zero_or_pos (i - xs.length) with hz | hz
        · exact hz
        · rw [List.getElem?_eq_none (by simp; omega)] at hx
          exact absurd hx (by simp)
      rw [hz] at hx
      have hxy : y = x := by simpa using hx
      have hin : i = n := by omega
      rw [← hxy, hin]
      exact hy

theorem opens_int {k : IntKind} (ht : P.underlying t = some (.int k)) : Opens P (Kd.int k) t (fun n => (Lit.int k n).wf = true) := by
  intro H enc w base spare held fuel cs x h
  obtain ⟨n, rfl, _, hw⟩ := DataW.trod_int ht h
  exact ⟨n, rfl, hw⟩

theorem opens_string (ht : P.underlying t = some .string) : Opens P Kd.string t (fun s => s.size ≤ 9223372036854775807) := by
  intro H enc w base spare held fuel cs x h
  obtain ⟨s, rfl, _, hs⟩ := DataW.trod_string ht h
  exact ⟨s, rfl, by simpa [maxLen] using hs⟩

theorem opens_slice {α : Type} {d : Kd α} {G : α → Prop} {e : TypeId} (ht : P.underlying t = some (.slice e)) (hc : P.cellsOf e = d.sz) (h0 : Opens P d e G) :
    Opens P (Kd.slice e d) t (fun l => l.length ≤ 9223372036854775807 ∧ ∀ x ∈ l, G x) := by
  intro H enc w base spare held fuel cs x h
  rcases Go.Deep.open_slice ht h with ⟨rfl, _⟩ | ⟨a, len, cap, m, n, D, Pl, rfl, _, hl, hm, hmm, _, hel⟩
  · exact ⟨[], ⟨none, 0, rfl, Nat.le_refl _, rfl, by simp, fun hp => absurd hp (by simp)⟩, by simp, fun x hx => absurd hx (by simp)⟩
  · have hlm : len ≤ m := by
      rw [hmm]
      split
      · exact hl
      · exact Nat.le_refl _
    have hall : ∀ i, i < len → ∃ x : α, (∃ cs', w.cells? base (a.add (i * P.cellsOf e)) (P.cellsOf e) = some cs' ∧ d.K w x cs') ∧ G x := by
      intro i hi
      obtain ⟨cs', h1, h2⟩ := hel i (by omega)
      obtain ⟨x, hk, hg⟩ := h0 h2
      exact ⟨x, ⟨cs', h1, hk⟩, hg⟩
    have hlen : len ≤ 9223372036854775807 := by simp only [maxLen] at hm; omega
    obtain ⟨xs, h1, h2⟩ := family len hall
    refine ⟨xs, ⟨some a, cap, by rw [h1], by omega, rfl, by omega, fun _ => ⟨a, rfl, fun j p hj => ?_⟩⟩, by omega, fun x hx => ?_⟩
    · obtain ⟨⟨cs', hc1, hk⟩, _⟩ := h2 j p hj
      refine ⟨cs', d.K_len hk, hk, fun i u hu => ?_⟩
      rw [hc] at hc1
      exact cells_read hc1 i u hu
    · obtain ⟨i, hi⟩ := List.getElem?_of_mem hx
      exact (h2 i x hi).2

/-- A list of cells, cut behind its first n. -/
theorem cut_cells {cs : List Value} {o n total : Nat} (hl : cs.length = total) (ho : o + n = total) : (cs.drop o).take n = cs.drop o := by
  apply List.take_of_length_le
  simp
  omega
theorem part_cells (cs : List Value) (o n : Nat) : cs.drop o = (cs.drop o).take n ++ cs.drop (o + n) := by
  rw [← List.drop_drop, List.take_append_drop]
theorem get_cells {β : Type} {xs : List β} {n : Nat} (h : xs.length = n) (i : Nat) (hi : i < n) : ∃ y, xs[i]? = some y := ⟨xs[i], List.getElem?_eq_getElem (by omega)⟩
end Go.Proofs.Ytjnnglphdaemaaa.XO
end

section
/- Which Lean values the laws' arguments are opened to: each struct type by its fields. -/
namespace Go.Proofs.Ytjnnglphdaemaaa.Q
open Go.RowKit Go.Proofs.Ytjnnglphdaemaaa.XO Go.Proofs.YtjnnglphdaemaaaW.PrintWords Go.ChangeShapes Go.WideShapes
set_option linter.unusedVariables false
set_option linter.unusedSimpArgs false
def G47 (x : S47) : Prop := (Lit.int .i64 x.f0).wf = true ∧ x.f1.size ≤ 9223372036854775807
theorem opens47 : Opens Try.prog k47 47 G47 := by
 intro H enc w base spare held fuel cs x h
 obtain ⟨xs, n, _, _, hl, hlen, hf⟩ := DataW.trod_struct Try.underlying47 h
 replace hl : cs.length = 2 := hl.trans (by kernel_rfl)
 replace hlen : xs.length = 2 := hlen
 obtain ⟨y0, e0⟩ := get_cells hlen 0 (by decide)
 have h0 : DataW.trod enc Try.prog w base spare held n 3 ((cs.drop 0).take (Try.prog.cellsOf 3)) = some y0 := (hf 0 _ rfl).trans e0
 rw [show Try.prog.cellsOf 3 = 1 from by kernel_rfl] at h0
 obtain ⟨a0, k0_, g0⟩ := (opens_int Try.underlying3) h0
 obtain ⟨y1, e1⟩ := get_cells hlen 1 (by decide)
 have h1 : DataW.trod enc Try.prog w base spare held n 9 ((cs.drop 1).take (Try.prog.cellsOf 9)) = some y1 := (hf 1 _ rfl).trans e1
 rw [show Try.prog.cellsOf 9 = 1 from by kernel_rfl] at h1
 obtain ⟨a1, k1_, g1⟩ := (opens_string Try.underlying9) h1
 exact ⟨⟨a0, a1⟩, ⟨_, _, (List.drop_zero).symm.trans (part_cells cs 0 1), k0_, (by rw [← cut_cells hl (show 1 + 1 = 2 from rfl)]; exact k1_)⟩, g0, g1⟩
def G49 (x : S49) : Prop := (x.f0.length ≤ 9223372036854775807 ∧ ∀ y0 ∈ x.f0, y0.size ≤ 9223372036854775807) ∧ G47 x.f1
theorem opens49 : Opens Try.prog k49 49 G49 := by
 intro H enc w base spare held fuel cs x h
 obtain ⟨xs, n, _, _, hl, hlen, hf⟩ := DataW.trod_struct Try.underlying49 h
 replace hl : cs.length = 3 := hl.trans (by kernel_rfl)
 replace hlen : xs.length = 2 := hlen
 obtain ⟨y0, e0⟩ := get_cells hlen 0 (by decide)
 have h0 : DataW.trod enc Try.prog w base spare held n 24 ((cs.drop 0).take (Try.prog.cellsOf 24)) = some y0 := (hf 0 _ rfl).trans e0
 rw [show Try.prog.cellsOf 24 = 1 from by kernel_rfl] at h0
 obtain ⟨a0, k0_, g0⟩ := (opens_slice Try.underlying24 (by kernel_rfl) (opens_string Try.underlying9)) h0
 obtain ⟨y1, e1⟩ := get_cells hlen 1 (by decide)
 have h1 : DataW.trod enc Try.prog w base spare held n 47 ((cs.drop 1).take (Try.prog.cellsOf 47)) = some y1 := (hf 1 _ rfl).trans e1
 rw [show Try.prog.cellsOf 47 = 2 from by kernel_rfl] at h1
 obtain ⟨a1, k1_, g1⟩ := opens47 h1
 exact ⟨⟨a0, a1⟩, ⟨_, _, (List.drop_zero).symm.trans (part_cells cs 0 1), k0_, (by rw [← cut_cells hl (show 1 + 2 = 3 from rfl)]; exact k1_)⟩, g0, g1⟩
def G71 (x : S71) : Prop := G49 x.f0 ∧ (x.f1.length ≤ 9223372036854775807 ∧ ∀ y0 ∈ x.f1, (Lit.int .u8 y0).wf = true) ∧ (Lit.int .i64 x.f2).wf = true
theorem opens71 : Opens Try.prog k71 71 G71 := by
 intro H enc w base spare held fuel cs x h
 obtain ⟨xs, n, _, _, hl, hlen, hf⟩ := DataW.trod_struct Try.underlying71 h
 replace hl : cs.length = 5 := hl.trans (by kernel_rfl)
 replace hlen : xs.length = 3 := hlen
 obtain ⟨y0, e0⟩ := get_cells hlen 0 (by decide)
 have h0 : DataW.trod enc Try.prog w base spare held n 49 ((cs.drop 0).take (Try.prog.cellsOf 49)) = some y0 := (hf 0 _ rfl).trans e0
 rw [show Try.prog.cellsOf 49 = 3 from by kernel_rfl] at h0
 obtain ⟨a0, k0_, g0⟩ := opens49 h0
 obtain ⟨y1, e1⟩ := get_cells hlen 1 (by decide)
 have h1 : DataW.trod enc Try.prog w base spare held n 22 ((cs.drop 3).take (Try.prog.cellsOf 22)) = some y1 := (hf 1 _ rfl).trans e1
 rw [show Try.prog.cellsOf 22 = 1 from by kernel_rfl] at h1
 obtain ⟨a1, k1_, g1⟩ := (opens_slice Try.underlying22 (by kernel_rfl) (opens_int Try.underlying5)) h1
 obtain ⟨y2, e2⟩ := get_cells hlen 2 (by decide)
 have h2 : DataW.trod enc Try.prog w base spare held n 3 ((cs.drop 4).take (Try.prog.cellsOf 3)) = some y2 := (hf 2 _ rfl).trans e2
 rw [show Try.prog.cellsOf 3 = 1 from by kernel_rfl] at h2
 obtain ⟨a2, k2_, g2⟩ := (opens_int Try.underlying3) h2
 exact ⟨⟨a0, a1, a2⟩, ⟨_, _, (List.drop_zero).symm.trans (part_cells cs 0 3), k0_, ⟨_, _, part_cells cs 3 1, k1_, (by rw [← cut_cells hl (show 4 + 1 = 5 from rfl)]; exact k2_)⟩⟩, g0, g1, g2⟩
end Go.Proofs.Ytjnnglphdaemaaa.Q
end

section
-- Written by a program of this session (wip/tools/pp.sh) over the print of the kit.
namespace Go.Proofs.Ytjnnglphdaemaaa.Q
open Go.RowKit Go.Proofs.YtjnnglphdaemaaaW.PrintWords Go.Proofs.YtjnnglphdaemaaaW.PrintLast Go.Proofs.YtjnnglphdaemaaaW.PrintMore
attribute [local go_sem] max2_int min2_int max_two min_two max_three min_three max_four min_four   -- for this text's walks alone
set_option linter.unusedVariables false
set_option linter.unusedSimpArgs false
def laws_FnExactMakeSure.j0 : Nat → Bool → List ByteArray → Int → ByteArray → List Int → Int → List ByteArray → Int → ByteArray → List Int → Int → List ByteArray → Int → ByteArray → List Int → Int → Option (Bool)
 | 0, _, _, _, _, _, _, _, _, _, _, _, _, _, _, _, _ => none
 | k + 1, x42, x602000, x602001, x602002, x602003, x602004, x622000, x622001, x622002, x622003, x622004, x642000, x642001, x642002, x642003, x642004 => if x42 = true then (none) else ((laws_markStore.f k x642000 x642001 x642002 x642003 x642004 1).bind fun bt657 => ((laws_heldStore.f k bt657.2.1 x642001 x642002 bt657.2.2 x642004 1).bind fun t660 => (if t660 < 0 then (none) else (if t660 = bt657.1 then ((laws_toStore.f k x602000 x602001 x602002 x602003 x602004).bind fun bt661 => ((impl_MakeSure.f k bt661.1 bt661.2.1 bt661.2.2.1 bt661.2.2.2.1 bt661.2.2.2.2).bind fun bt670 => ((laws_eqStore.f k bt670.1 bt670.2.1 bt670.2.2.1 bt670.2.2.2.1 bt670.2.2.2.2 x622000 x622001 x622002 x622003 x622004).bind fun t680 => (if t680 = true then ((laws_heldStore.f k bt657.2.1 x642001 x642002 bt657.2.2 x642004 1).bind fun t681 => (if t681 < 0 then (none) else (if t681 = bt657.1 then (some true) else (none)))) else (none))))) else (none)))))
def laws_FnExactMakeSure.f (k : Nat) (l0_0 : List ByteArray) (a0_1 : Int) (a0_2 : ByteArray) (l0_3 : List Int) (a0_4 : Int) : Option (Bool) := (laws_szStore.f k l0_0 a0_1 a0_2 l0_3 a0_4 1048576).bind fun t602 => (if t602 < 0 then (some true) else ((laws_toStore.f k l0_0 a0_1 a0_2 l0_3 a0_4).bind fun bt603 => ((spec_MakeSure.f k bt603.1 bt603.2.1 bt603.2.2.1 bt603.2.2.2.1 bt603.2.2.2.2).bind fun bt612 => ((laws_toStore.f k l0_0 a0_1 a0_2 l0_3 a0_4).bind fun bt622 => ((impl_MakeSure.f k bt622.1 bt622.2.1 bt622.2.2.1 bt622.2.2.2.1 bt622.2.2.2.2).bind fun bt632 => ((laws_eqStore.f k bt632.1 bt632.2.1 bt632.2.2.1 bt632.2.2.2.1 bt632.2.2.2.2 bt612.1 bt612.2.1 bt612.2.2.1 bt612.2.2.2.1 bt612.2.2.2.2).bind fun t642 => (if t642 = true then ((laws_toStore.f k l0_0 a0_1 a0_2 l0_3 a0_4).bind fun bt643 => ((laws_eqStore.f k bt622.1 bt622.2.1 bt622.2.2.1 bt622.2.2.2.1 bt622.2.2.2.2 bt643.1 bt643.2.1 bt643.2.2.1 bt643.2.2.2.1 bt643.2.2.2.2).bind fun t652 => (if t652 = true then ((laws_markStore.f k bt622.1 bt622.2.1 bt622.2.2.1 bt622.2.2.2.1 bt622.2.2.2.2 1).bind fun bt653 => (if bt653.1 < 0 then (laws_FnExactMakeSure.j0 k true l0_0 a0_1 a0_2 l0_3 a0_4 bt612.1 bt612.2.1 bt612.2.2.1 bt612.2.2.2.1 bt612.2.2.2.2 bt632.1 bt632.2.1 bt632.2.2.1 bt632.2.2.2.1 bt632.2.2.2.2) else ((laws_eqStore.f k bt632.1 bt632.2.1 bt632.2.2.1 bt632.2.2.2.1 bt632.2.2.2.2 bt612.1 bt612.2.1 bt612.2.2.1 bt612.2.2.2.1 bt612.2.2.2.2).bind fun t656 => (laws_FnExactMakeSure.j0 k (!t656) l0_0 a0_1 a0_2 l0_3 a0_4 bt612.1 bt612.2.1 bt612.2.2.1 bt612.2.2.2.1 bt612.2.2.2.2 bt632.1 bt632.2.1 bt632.2.2.1 bt632.2.2.2.1 bt632.2.2.2.2)))) else (none)))) else (none))))))))
theorem laws_FnExactMakeSure.mono_l : ∀ k, (∀ y0 y1 y2 y3 y4 y5 y6 y7 y8 y9 y10 y11 y12 y13 y14 y15, LeO (laws_FnExactMakeSure.j0 k y0 y1 y2 y3 y4 y5 y6 y7 y8 y9 y10 y11 y12 y13 y14 y15) (laws_FnExactMakeSure.j0 (k + 1) y0 y1 y2 y3 y4 y5 y6 y7 y8 y9 y10 y11 y12 y13 y14 y15))
 | 0 => fun _ _ _ _ _ _ _ _ _ _ _ _ _ _ _ _ r h => by simp [laws_FnExactMakeSure.j0] at h
 | k + 1 => by
  have ih0 := laws_FnExactMakeSure.mono_l k
  ·intro y0 y1 y2 y3 y4 y5 y6 y7 y8 y9 y10 y11 y12 y13 y14 y15
   unfold laws_FnExactMakeSure.j0
   repeat' (with_reducible first | exact LeO.refl _ | exact LeO.none _ | apply ih0 | apply impl_MakeSure.mono | apply laws_eqStore.mono | apply laws_heldStore.mono | apply laws_markStore.mono | apply laws_szStore.mono | apply laws_toStore.mono | apply spec_MakeSure.mono | apply LeO.ite | refine LeO.bind ?_ fun _ => ?_)
theorem laws_FnExactMakeSure.mono : ∀ a0 a1 a2 a3 a4 k, LeO (laws_FnExactMakeSure.f k a0 a1 a2 a3 a4) (laws_FnExactMakeSure.f (k + 1) a0 a1 a2 a3 a4) := by
 intro a0 a1 a2 a3 a4 k
 have ih0 := laws_FnExactMakeSure.mono_l k
 unfold laws_FnExactMakeSure.f
 repeat' (with_reducible first | exact LeO.refl _ | exact LeO.none _ | apply ih0 | apply impl_MakeSure.mono | apply laws_eqStore.mono | apply laws_heldStore.mono | apply laws_markStore.mono | apply laws_szStore.mono | apply laws_toStore.mono | apply spec_MakeSure.mono | apply LeO.ite | refine LeO.bind ?_ fun _ => ?_)
set_option maxHeartbeats 8000000 in
set_option maxRecDepth 100000 in
theorem laws_FnExactMakeSure.calls (k : Nat) (A0_0 : Option Addr) (c0_0 : Nat) (l0_0 : List ByteArray) (a0_1 : Int) (a0_2 : ByteArray) (A0_3 : Option Addr) (c0_3 : Nat) (l0_3 : List Int) (a0_4 : Int) (r : Bool) (w : World) (hr0_0 : Kd.C Kd.string w A0_0 l0_0.length l0_0) (hc0_0 : l0_0.length ≤ c0_0) (hr0_3 : Kd.C (Kd.int .u8) w A0_3 l0_3.length l0_3) (hc0_3 : l0_3.length ≤ c0_3) (h : laws_FnExactMakeSure.f k l0_0 a0_1 a0_2 l0_3 a0_4 = some r) :
  Calls Try.prog 7 #[.agg #[.slice A0_0 l0_0.length c0_0, .int .i64 a0_1, .string a0_2, .slice A0_3 l0_3.length c0_3, .int .i64 a0_4]] w fun e w' => e = .returned (.bool r) ∧ Below w.heap.size w w' := by
 have hu71 := Try.underlying71
 have hu37 := Try.underlying37
 have HR0_0 := Aside0.mk hr0_0
 have HC0_0 := Aside0.mk hc0_0
 clear hr0_0 hc0_0
 have HR0_3 := Aside0.mk hr0_3
 have HC0_3 := Aside0.mk hc0_3
 clear hr0_3 hc0_3
 have HB := Aside0.mk (Below.refl w.heap.size w)
 have H : ((laws_szStore.f k l0_0 a0_1 a0_2 l0_3 a0_4 1048576).bind fun t602 => (if t602 < 0 then (some true) else ((laws_toStore.f k l0_0 a0_1 a0_2 l0_3 a0_4).bind fun bt603 => ((spec_MakeSure.f k bt603.1 bt603.2.1 bt603.2.2.1 bt603.2.2.2.1 bt603.2.2.2.2).bind fun bt612 => ((laws_toStore.f k l0_0 a0_1 a0_2 l0_3 a0_4).bind fun bt622 => ((impl_MakeSure.f k bt622.1 bt622.2.1 bt622.2.2.1 bt622.2.2.2.1 bt622.2.2.2.2).bind fun bt632 => ((laws_eqStore.f k bt632.1 bt632.2.1 bt632.2.2.1 bt632.2.2.2.1 bt632.2.2.2.2 bt612.1 bt612.2.1 bt612.2.2.1 bt612.2.2.2.1 bt612.2.2.2.2).bind fun t642 => (if t642 = true then ((laws_toStore.f k l0_0 a0_1 a0_2 l0_3 a0_4).bind fun bt643 => ((laws_eqStore.f k bt622.1 bt622.2.1 bt622.2.2.1 bt622.2.2.2.1 bt622.2.2.2.2 bt643.1 bt643.2.1 bt643.2.2.1 bt643.2.2.2.1 bt643.2.2.2.2).bind fun t652 => (if t652 = true then ((laws_markStore.f k bt622.1 bt622.2.1 bt622.2.2.1 bt622.2.2.2.1 bt622.2.2.2.2 1).bind fun bt653 => (if bt653.1 < 0 then (laws_FnExactMakeSure.j0 k true l0_0 a0_1 a0_2 l0_3 a0_4 bt612.1 bt612.2.1 bt612.2.2.1 bt612.2.2.2.1 bt612.2.2.2.2 bt632.1 bt632.2.1 bt632.2.2.1 bt632.2.2.2.1 bt632.2.2.2.2) else ((laws_eqStore.f k bt632.1 bt632.2.1 bt632.2.2.1 bt632.2.2.2.1 bt632.2.2.2.2 bt612.1 bt612.2.1 bt612.2.2.1 bt612.2.2.2.1 bt612.2.2.2.2).bind fun t656 => (laws_FnExactMakeSure.j0 k (!t656) l0_0 a0_1 a0_2 l0_3 a0_4 bt612.1 bt612.2.1 bt612.2.2.1 bt612.2.2.2.1 bt612.2.2.2.2 bt632.1 bt632.2.1 bt632.2.2.1 bt632.2.2.2.1 bt632.2.2.2.2)))) else (none)))) else (none))))))))) = some r := h
 clear h
 replace H := bi_ H; obtain ⟨t602, A2, H⟩ := H
 replace H := itd_ H; obtain ⟨c3b0, H⟩ | ⟨c3b0, H⟩ := H
 ·obtain rfl := Option.some.inj H
  go_enter Try.func7, Try.ntmps7
  go_wp2_with (first | ((with_reducible refine gd_ 1 ?_); refine bx_ 1 71 #[.slice A0_0 l0_0.length c0_0, .int .i64 a0_1, .string a0_2, .slice A0_3 l0_3.length c0_3, .int .i64 a0_4] ?_; intro gb601 hg w4 hbox hb; have BK601 := Aside0.mk hbox; have GW601 := gg_ hg HB; have GE601 := GW601; replace HB := ss_ HB hb; clear hb hbox hg; have hz5 := cz5_ BK601) | ((with_reducible refine gq_ 44 13 ?_); refine gc_ 13 Try.func44 (laws_szStore.calls k _ _ l0_0 a0_1 a0_2 _ _ l0_3 a0_4 1048576 t602 _ (cb_ HR0_0 HB) HC0_0.out (cb_ HR0_3 HB) HC0_3.out A2.out) ?_; rintro e w6 ⟨rfl, hb⟩; refine ⟨_, rfl, ?_⟩; replace BK601 := kl_ BK601 hb; replace HB := ss_ HB hb; clear hb))
  go_ret
  exact ⟨e2_, bw_ HB⟩
 ·replace H := bi_ H; obtain ⟨⟨t603, t606, t607, t608, t611⟩, A7, H⟩ := H
  dsimp only at H
  replace H := bi_ H; obtain ⟨⟨t612, t615, t616, t617, t620⟩, A8, H⟩ := H
  dsimp only at H
  replace H := bi_ H; obtain ⟨⟨t622, t625, t626, t627, t630⟩, A9, H⟩ := H
  dsimp only at H
  replace H := bi_ H; obtain ⟨⟨t632, t635, t636, t637, t640⟩, A10, H⟩ := H
  dsimp only at H
  replace H := bi_ H; obtain ⟨t642, A11, H⟩ := H
  replace H := ipb_ H; obtain ⟨rfl, H⟩ := H
  replace H := bi_ H; obtain ⟨⟨t643, t646, t647, t648, t651⟩, A13, H⟩ := H
  dsimp only at H
  replace H := bi_ H; obtain ⟨t652, A14, H⟩ := H
  replace H := ipb_ H; obtain ⟨rfl, H⟩ := H
  replace H := bi_ H; obtain ⟨⟨t653, t654, t655⟩, A16, H⟩ := H
  dsimp only at H
  have HC17 := Aside0.mk H
  clear H
  go_enter Try.func7, Try.ntmps7
  try go_wp2_with (first | ((with_reducible refine gd_ 1 ?_); refine bx_ 1 71 #[.slice A0_0 l0_0.length c0_0, .int .i64 a0_1, .string a0_2, .slice A0_3 l0_3.length c0_3, .int .i64 a0_4] ?_; intro gb601 hg w18 hbox hb; have BK601 := Aside0.mk hbox; have GW601 := gg_ hg HB; have GE601 := GW601; replace HB := ss_ HB hb; clear hb hbox hg; have hz19 := cz5_ BK601) | ((with_reducible refine gq_ 44 13 ?_); refine gc_ 13 Try.func44 (laws_szStore.calls k _ _ l0_0 a0_1 a0_2 _ _ l0_3 a0_4 1048576 t602 _ (cb_ HR0_0 HB) HC0_0.out (cb_ HR0_3 HB) HC0_3.out A2.out) ?_; rintro e w20 ⟨rfl, hb⟩; refine ⟨_, rfl, ?_⟩; replace BK601 := kl_ BK601 hb; replace HB := ss_ HB hb; clear hb; have hz21 := cz5_ BK601) | ((with_reducible refine gq_ 46 17 ?_); refine gc_ 17 Try.func46 (laws_toStore.calls k _ _ l0_0 a0_1 a0_2 _ _ l0_3 a0_4 t603 t606 t607 t608 t611 _ (cb_ HR0_0 HB) HC0_0.out (cb_ HR0_3 HB) HC0_3.out A7.out) ?_; rintro e w22 ⟨v604, v609, rfl, ho0, ho1, hb⟩; refine ⟨_, rfl, ?_⟩; have HO605 := Aside0.mk (Kd.R_lower ho0 (sz_ HB)); have HO610 := Aside0.mk (Kd.R_lower ho1 (sz_ HB)); replace BK601 := kl_ BK601 hb; replace HB := ss_ HB hb; clear hb ho0 ho1; obtain ⟨Ao23, co23, eo23⟩ := Kd.R_slice HO605.out; subst eo23; obtain ⟨Ao24, co24, eo24⟩ := Kd.R_slice HO610.out; subst eo24) | ((with_reducible refine gq_ 45 18 ?_); refine gc_ 18 Try.func45 (spec_MakeSure.calls k _ _ t603 t606 t607 _ _ t608 t611 t612 t615 t616 t617 t620 _ (ch_ HO605) (cl_ HO605) (ch_ HO610) (cl_ HO610) A8.out) ?_; rintro e w25 ⟨v613, v618, rfl, ho0, ho1, hb⟩; refine ⟨_, rfl, ?_⟩; have HO614 := Aside0.mk (Kd.R_lower (Kd.R_new' ho0 (lt_ HO605)) (sz_ HB)); replace HO605 := re_ HO605 ho0 hb; have HO619 := Aside0.mk (Kd.R_lower (Kd.R_new' ho1 (lt_ HO610)) (sz_ HB)); replace HO610 := re_ HO610 ho1 hb; replace BK601 := kl_ BK601 hb; replace HB := ss_ HB hb; clear hb ho0 ho1) | ((with_reducible refine gd_ 4 ?_); refine bx_ 4 37 #[.slice none 0 0, .int .i64 0, .string (⟨#[]⟩ : ByteArray), .slice none 0 0, .int .i64 0] ?_; intro gb621 hg w26 hbox hb; replace HO605 := rb_ HO605 hb; replace HO610 := rb_ HO610 hb; replace HO614 := rb_ HO614 hb; replace HO619 := rb_ HO619 hb; have BK621 := Aside0.mk hbox; have GW621 := gg_ hg HB; have GE621 := GW621; replace HB := ss_ HB hb; have NB601_621 := nla_ hg BK601; have NB621_601 := nga_ hg BK601; replace BK601 := kl_ BK601 hb; clear hb hbox hg; obtain ⟨Ao27, co27, eo27⟩ := Kd.R_slice HO614.out; subst eo27; have hnb28 := NB621_601.out; have hnc28 := NB601_621.out; have hz29 := cz5_ BK621; obtain ⟨Ao30, co30, eo30⟩ := Kd.R_slice HO619.out; subst eo30; have hz31 := cz5_ BK601) | ((with_reducible refine gq_ 46 20 ?_); refine gc_ 20 Try.func46 (laws_toStore.calls k _ _ l0_0 a0_1 a0_2 _ _ l0_3 a0_4 t622 t625 t626 t627 t630 _ (Kd.C_below HR0_0.out (bw_ HB)) HC0_0.out (Kd.C_below HR0_3.out (bw_ HB)) HC0_3.out A9.out) ?_; rintro e w32 ⟨v623, v628, rfl, ho0, ho1, hb⟩; refine ⟨_, rfl, ?_⟩; have HO624 := Aside0.mk (Kd.R_lower (Kd.R_new' (Kd.R_new' ho0 (lf_ HO605 BK621)) (lf_ HO614 BK621)) (sz_ HB)); replace HO605 := ref_ HO605 BK621 ho0 hb; replace HO614 := ref_ HO614 BK621 ho0 hb; have HO629 := Aside0.mk (Kd.R_lower (Kd.R_new' (Kd.R_new' ho1 (lf_ HO610 BK621)) (lf_ HO619 BK621)) (sz_ HB)); replace HO610 := ref_ HO610 BK621 ho1 hb; replace HO619 := ref_ HO619 BK621 ho1 hb; replace BK601 := kp_ BK601 hb; replace BK621 := kp_ BK621 hb; replace HB := ss_ HB hb; clear hb ho0 ho1) | ((with_reducible refine gd_ 5 ?_); refine bx_ 5 37 #[.slice none 0 0, .int .i64 0, .string (⟨#[]⟩ : ByteArray), .slice none 0 0, .int .i64 0] ?_; intro gb631 hg w33 hbox hb; replace HO605 := rb_ HO605 hb; replace HO610 := rb_ HO610 hb; replace HO614 := rb_ HO614 hb; replace HO619 := rb_ HO619 hb; replace HO624 := rb_ HO624 hb; replace HO629 := rb_ HO629 hb; have BK631 := Aside0.mk hbox; have GW631 := gg_ hg HB; have GE631 := GW631; replace HB := ss_ HB hb; have NB601_631 := nla_ hg BK601; have NB631_601 := nga_ hg BK601; replace BK601 := kl_ BK601 hb; have NB621_631 := nla_ hg BK621; have NB631_621 := nga_ hg BK621; replace BK621 := kl_ BK621 hb; clear hb hbox hg; obtain ⟨Ao34, co34, eo34⟩ := Kd.R_slice HO624.out; subst eo34; have hnb35 := NB631_601.out; have hnc35 := NB601_631.out; have hnb36 := NB631_621.out; have hnc36 := NB621_631.out; have hz37 := cz5_ BK631; obtain ⟨Ao38, co38, eo38⟩ := Kd.R_slice HO629.out; subst eo38) | ((with_reducible refine gq_ 42 22 ?_); refine gc_ 22 Try.func42 (impl_MakeSure.calls k _ _ t622 t625 t626 _ _ t627 t630 t632 t635 t636 t637 t640 _ (chf_ HO624 BK631) (cl_ HO624) (chf_ HO629 BK631) (cl_ HO629) A10.out) ?_; rintro e w39 ⟨v633, v638, rfl, ho0, ho1, hb⟩; refine ⟨_, rfl, ?_⟩; have HO634 := Aside0.mk (Kd.R_lower (Kd.R_new' (Kd.R_new' (Kd.R_new' ho0 (lf_ HO605 BK631)) (lf_ HO614 BK631)) (lf_ HO624 BK631)) (sz_ HB)); replace HO605 := ref_ HO605 BK631 ho0 hb; replace HO614 := ref_ HO614 BK631 ho0 hb; replace HO624 := ref_ HO624 BK631 ho0 hb; have HO639 := Aside0.mk (Kd.R_lower (Kd.R_new' (Kd.R_new' (Kd.R_new' ho1 (lf_ HO610 BK631)) (lf_ HO619 BK631)) (lf_ HO629 BK631)) (sz_ HB)); replace HO610 := ref_ HO610 BK631 ho1 hb; replace HO619 := ref_ HO619 BK631 ho1 hb; replace HO629 := ref_ HO629 BK631 ho1 hb; replace BK601 := kp_ BK601 hb; replace BK621 := kp_ BK621 hb; replace BK631 := kp_ BK631 hb; replace HB := ss_ HB hb; clear hb ho0 ho1) | ((with_reducible refine gd_ 6 ?_); refine bx_ 6 37 #[.slice none 0 0, .int .i64 0, .string (⟨#[]⟩ : ByteArray), .slice none 0 0, .int .i64 0] ?_; intro gb641 hg w40 hbox hb; replace HO605 := rb_ HO605 hb; replace HO610 := rb_ HO610 hb; replace HO614 := rb_ HO614 hb; replace HO619 := rb_ HO619 hb; replace HO624 := rb_ HO624 hb; replace HO629 := rb_ HO629 hb; replace HO634 := rb_ HO634 hb; replace HO639 := rb_ HO639 hb; have BK641 := Aside0.mk hbox; have GW641 := gg_ hg HB; have GE641 := GW641; replace HB := ss_ HB hb; have NB601_641 := nla_ hg BK601; have NB641_601 := nga_ hg BK601; replace BK601 := kl_ BK601 hb; have NB621_641 := nla_ hg BK621; have NB641_621 := nga_ hg BK621; replace BK621 := kl_ BK621 hb; have NB631_641 := nla_ hg BK631; have NB641_631 := nga_ hg BK631; replace BK631 := kl_ BK631 hb; clear hb hbox hg; obtain ⟨Ao41, co41, eo41⟩ := Kd.R_slice HO634.out; subst eo41; have hnb42 := NB641_601.out; have hnc42 := NB601_641.out; have hnb43 := NB641_621.out; have hnc43 := NB621_641.out; have hnb44 := NB641_631.out; have hnc44 := NB631_641.out; have hz45 := cz5_ BK641; obtain ⟨Ao46, co46, eo46⟩ := Kd.R_slice HO639.out; subst eo46; have hz47 := cz5_ BK621) | ((with_reducible refine gq_ 47 25 ?_); refine gc_ 25 Try.func47 (laws_eqStore.calls k _ _ t632 t635 t636 _ _ t637 t640 _ _ t612 t615 t616 _ _ t617 t620 true _ (chf_ HO634 BK641) (cl_ HO634) (chf_ HO639 BK641) (cl_ HO639) (chf_ HO614 BK641) (cl_ HO614) (chf_ HO619 BK641) (cl_ HO619) A11.out) ?_; rintro e w48 ⟨rfl, hb⟩; refine ⟨_, rfl, ?_⟩; replace HO605 := rbf_ HO605 BK641 hb; replace HO610 := rbf_ HO610 BK641 hb; replace HO614 := rbf_ HO614 BK641 hb; replace HO619 := rbf_ HO619 BK641 hb; replace HO624 := rbf_ HO624 BK641 hb; replace HO629 := rbf_ HO629 BK641 hb; replace HO634 := rbf_ HO634 BK641 hb; replace HO639 := rbf_ HO639 BK641 hb; replace BK601 := kp_ BK601 hb; replace BK621 := kp_ BK621 hb; replace BK631 := kp_ BK631 hb; replace BK641 := kp_ BK641 hb; replace HB := ss_ HB hb; clear hb))
  replace HO605 := Aside0.mk (Kd.R_drew HO605.out)
  replace HO610 := Aside0.mk (Kd.R_drew HO610.out)
  replace HO614 := Aside0.mk (Kd.R_drew HO614.out)
  replace HO619 := Aside0.mk (Kd.R_drew HO619.out)
  replace HO624 := Aside0.mk (Kd.R_drew HO624.out)
  replace HO629 := Aside0.mk (Kd.R_drew HO629.out)
  replace HO634 := Aside0.mk (Kd.R_drew HO634.out)
  replace HO639 := Aside0.mk (Kd.R_drew HO639.out)
  replace BK601 := Aside0.mk (blk_drew BK601.out)
  replace BK621 := Aside0.mk (blk_drew BK621.out)
  replace BK631 := Aside0.mk (blk_drew BK631.out)
  replace BK641 := Aside0.mk (blk_drew BK641.out)
  replace HB := Aside0.mk (below_drew1 HB.out)
  refine start_ (n := 5) (S := fun w' => w'.cell? ⟨gb631, 0, none⟩ = some (.slice Ao34 t622.length co34) ∧ w'.cell? ⟨gb631, 1, none⟩ = some (.int .i64 t625) ∧ w'.cell? ⟨gb631, 2, none⟩ = some (.string t626) ∧ w'.cell? ⟨gb631, 3, none⟩ = some (.slice Ao38 t627.length co38) ∧ w'.cell? ⟨gb631, 4, none⟩ = some (.int .i64 t630) ∧ w'.cell? ⟨gb601, 0, none⟩ = some (.slice A0_0 l0_0.length c0_0) ∧ w'.cell? ⟨gb601, 1, none⟩ = some (.int .i64 a0_1) ∧ w'.cell? ⟨gb601, 2, none⟩ = some (.string a0_2) ∧ w'.cell? ⟨gb601, 3, none⟩ = some (.slice A0_3 l0_3.length c0_3) ∧ w'.cell? ⟨gb601, 4, none⟩ = some (.int .i64 a0_4)) (ds := []) (lz_ 5 0) (by kernel_rfl) rfl rfl ⟨bc0_ BK631.out, bc1_ BK631.out, bc2_ BK631.out, bc3_ BK631.out, bc4_ BK631.out, bc0_ BK601.out, bc1_ BK601.out, bc2_ BK601.out, bc3_ BK601.out, bc4_ BK601.out⟩ (fun hHeld => ?_)
  generalize w48.drew = w49 at HO605 HO610 HO614 HO619 HO624 HO629 HO634 HO639 BK601 BK621 BK631 BK641 HB hHeld ⊢
  refine tk_ 0 27 1 ?_
  refine tk_ 1 28 3 ?_
  refine one_ (i := 2) (N := some 29) (lz_ 5 7) rfl rfl (by kernel_rfl) (by decide) (fun K hK => ?_)
  refine ge_ Try.func46 #[.agg #[.slice A0_0 l0_0.length c0_0, .int .i64 a0_1, .string a0_2, .slice A0_3 l0_3.length c0_3, .int .i64 a0_4]] ?_
  with_reducible refine (laws_toStore.calls k _ _ l0_0 a0_1 a0_2 _ _ l0_3 a0_4 t643 t646 t647 t648 t651 _ ?side1 ?side2 ?side3 ?side4 A13.out).mono ?_
  (case side1 => exact cb_ HR0_0 HB)
  (case side2 => exact HC0_0.out)
  (case side3 => exact cb_ HR0_3 HB)
  (case side4 => exact HC0_3.out)
  rintro e w50 ⟨v644, v649, rfl, ho0, ho1, hb⟩
  refine ⟨_, rfl, ?_⟩
  have HO645 := Aside0.mk (Kd.R_lower (Kd.R_new' (Kd.R_new' (Kd.R_new' (Kd.R_new' ho0 (lt_ HO605)) (lt_ HO614)) (lt_ HO624)) (lt_ HO634)) (sz_ HB))
  replace HO605 := re_ HO605 ho0 hb
  replace HO614 := re_ HO614 ho0 hb
  replace HO624 := re_ HO624 ho0 hb
  replace HO634 := re_ HO634 ho0 hb
  have HO650 := Aside0.mk (Kd.R_lower (Kd.R_new' (Kd.R_new' (Kd.R_new' (Kd.R_new' ho1 (lt_ HO610)) (lt_ HO619)) (lt_ HO629)) (lt_ HO639)) (sz_ HB))
  replace HO610 := re_ HO610 ho1 hb
  replace HO619 := re_ HO619 ho1 hb
  replace HO629 := re_ HO629 ho1 hb
  replace HO639 := re_ HO639 ho1 hb
  replace BK601 := kl_ BK601 hb
  replace BK621 := kl_ BK621 hb
  replace BK631 := kl_ BK631 hb
  replace BK641 := kl_ BK641 hb
  replace HB := ss_ HB hb
  clear hb ho0 ho1
  obtain ⟨Ao51, co51, eo51⟩ := Kd.R_slice HO645.out
  (first | subst eo51 | (injection eo51 with f1_ f2_ f3_; have f4_ := f1_.symm; have f5_ := f3_.symm; clear f1_ f2_ f3_; subst f4_; subst f5_))
  obtain ⟨Ao52, co52, eo52⟩ := Kd.R_slice HO650.out
  (first | subst eo52 | (injection eo52 with f1_ f2_ f3_; have f4_ := f1_.symm; have f5_ := f3_.symm; clear f1_ f2_ f3_; subst f4_; subst f5_))
  refine hK.out _ _ ⟨bc0_ BK631.out, bc1_ BK631.out, bc2_ BK631.out, bc3_ BK631.out, bc4_ BK631.out, bc0_ BK601.out, bc1_ BK601.out, bc2_ BK601.out, bc3_ BK601.out, bc4_ BK601.out⟩ (fun hHeld => ?_)
  clear hK K
  refine no_ 29 ?_
  refine one_ (i := 3) (N := some 30) (lz_ 5 15) rfl rfl (by kernel_rfl) (by decide) (fun K hK => ?_)
  refine ge_ Try.func47 #[.agg #[.slice Ao34 t622.length co34, .int .i64 t625, .string t626, .slice Ao38 t627.length co38, .int .i64 t630], .agg #[.slice Ao51 t643.length co51, .int .i64 t646, .string t647, .slice Ao52 t648.length co52, .int .i64 t651]] ?_
  with_reducible refine (laws_eqStore.calls k _ _ t622 t625 t626 _ _ t627 t630 _ _ t643 t646 t647 _ _ t648 t651 true _ ?side1 ?side2 ?side3 ?side4 ?side5 ?side6 ?side7 ?side8 A14.out).mono ?_
  (case side1 => exact ch_ HO624)
  (case side2 => exact (cl_ HO624))
  (case side3 => exact ch_ HO629)
  (case side4 => exact (cl_ HO629))
  (case side5 => exact ch_ HO645)
  (case side6 => exact (cl_ HO645))
  (case side7 => exact ch_ HO650)
  (case side8 => exact (cl_ HO650))
  rintro e w53 ⟨rfl, hb⟩
  refine ⟨_, rfl, ?_⟩
  replace HO605 := rb_ HO605 hb
  replace HO610 := rb_ HO610 hb
  replace HO614 := rb_ HO614 hb
  replace HO619 := rb_ HO619 hb
  replace HO624 := rb_ HO624 hb
  replace HO629 := rb_ HO629 hb
  replace HO634 := rb_ HO634 hb
  replace HO639 := rb_ HO639 hb
  replace HO645 := rb_ HO645 hb
  replace HO650 := rb_ HO650 hb
  replace BK601 := kl_ BK601 hb
  replace BK621 := kl_ BK621 hb
  replace BK631 := kl_ BK631 hb
  replace BK641 := kl_ BK641 hb
  replace HB := ss_ HB hb
  clear hb
  refine hK.out _ _ ⟨bc0_ BK631.out, bc1_ BK631.out, bc2_ BK631.out, bc3_ BK631.out, bc4_ BK631.out, bc0_ BK601.out, bc1_ BK601.out, bc2_ BK601.out, bc3_ BK601.out, bc4_ BK601.out⟩ (fun hHeld => ?_)
  clear hK K
  refine no_ 30 ?_
  refine pk_ 4 31 31 ?_
  refine done_ (by kernel_rfl) ?_
  have hz54 := cz5_ BK631
  go_upto_region 14 with (first | ((with_reducible refine gq_ 48 34 ?_); refine gc_ 34 Try.func48 (laws_markStore.calls k (fun k_ => some k_ = (.slice Ao34 t622.length co34 : Value).ownBlock) (.slice Ao34 t622.length co34) t622 t625 t626 (fun k_ => some k_ = (.slice Ao38 t627.length co38 : Value).ownBlock) (.slice Ao38 t627.length co38) t627 t630 1 t653 t654 t655 w _ (bw_ HB) (Kd.R_tight rfl HO624.out) (Kd.R_tight rfl HO629.out) A16.out) ?_; rintro e w55 ⟨rfl, hy0, hy1, hb, hkp⟩; refine ⟨_, rfl, ?_⟩; replace BK601 := Aside0.mk (blk_kept (kb_ BK601.out) hkp (fun hs_ => Or.elim hs_ (fun e_ => (fun e_ => (Kd.R_ne HO624.out BK601.out (by decide)) e_) e_) (fun e_ => (fun e_ => (Kd.R_ne HO629.out BK601.out (by decide)) e_) e_))); replace HO605 := Aside0.mk (Kd.R_mono (ok' := fun k_ => some k_ ≠ (.slice Ao27 t612.length co27 : Value).ownBlock ∧ some k_ ≠ (.slice Ao34 t622.length co34 : Value).ownBlock ∧ some k_ ≠ (.slice Ao41 t632.length co41 : Value).ownBlock ∧ some k_ ≠ (.slice Ao51 t643.length co51 : Value).ownBlock) (Kd.R_keptB ((Kd.R_apart' HO605.out (Kd.R_typed HO629.out) (by decide))) hkp (fun k_ hk_ hs_ => Or.elim hs_ (fun e_ => (hk_.1.1.1.2) e_) (fun e_ => (hk_.2) e_))) (fun k_ hk_ => ⟨hk_.1.1.1.1.1.2, hk_.1.1.1.1.2, hk_.1.1.1.2, hk_.1.1.2⟩)); replace HO610 := Aside0.mk (Kd.R_mono (ok' := fun k_ => some k_ ≠ (.slice Ao30 t617.length co30 : Value).ownBlock ∧ some k_ ≠ (.slice Ao38 t627.length co38 : Value).ownBlock ∧ some k_ ≠ (.slice Ao46 t637.length co46 : Value).ownBlock ∧ some k_ ≠ (.slice Ao52 t648.length co52 : Value).ownBlock) (Kd.R_keptB ((Kd.R_apart' HO610.out (Kd.R_typed HO624.out) (by decide))) hkp (fun k_ hk_ hs_ => Or.elim hs_ (fun e_ => (hk_.2) e_) (fun e_ => (hk_.1.1.1.2) e_))) (fun k_ hk_ => ⟨hk_.1.1.1.1.1.2, hk_.1.1.1.1.2, hk_.1.1.1.2, hk_.1.1.2⟩)); replace HO614 := Aside0.mk (Kd.R_mono (ok' := fun k_ => some k_ ≠ (.slice Ao23 t603.length co23 : Value).ownBlock ∧ some k_ ≠ (.slice Ao34 t622.length co34 : Value).ownBlock ∧ some k_ ≠ (.slice Ao41 t632.length co41 : Value).ownBlock ∧ some k_ ≠ (.slice Ao51 t643.length co51 : Value).ownBlock) (Kd.R_keptB ((Kd.R_apart' HO614.out (Kd.R_typed HO629.out) (by decide))) hkp (fun k_ hk_ hs_ => Or.elim hs_ (fun e_ => (hk_.1.1.1.2) e_) (fun e_ => (hk_.2) e_))) (fun k_ hk_ => ⟨hk_.1.1.1.1.1.2, hk_.1.1.1.1.2, hk_.1.1.1.2, hk_.1.1.2⟩)); replace HO619 := Aside0.mk (Kd.R_mono (ok' := fun k_ => some k_ ≠ (.slice Ao24 t608.length co24 : Value).ownBlock ∧ some k_ ≠ (.slice Ao38 t627.length co38 : Value).ownBlock ∧ some k_ ≠ (.slice Ao46 t637.length co46 : Value).ownBlock ∧ some k_ ≠ (.slice Ao52 t648.length co52 : Value).ownBlock) (Kd.R_keptB ((Kd.R_apart' HO619.out (Kd.R_typed HO624.out) (by decide))) hkp (fun k_ hk_ hs_ => Or.elim hs_ (fun e_ => (hk_.2) e_) (fun e_ => (hk_.1.1.1.2) e_))) (fun k_ hk_ => ⟨hk_.1.1.1.1.1.2, hk_.1.1.1.1.2, hk_.1.1.1.2, hk_.1.1.2⟩)); replace BK621 := Aside0.mk (blk_kept (kb_ BK621.out) hkp (fun hs_ => Or.elim hs_ (fun e_ => (fun e_ => (Kd.R_ne HO624.out BK621.out (by decide)) e_) e_) (fun e_ => (fun e_ => (Kd.R_ne HO629.out BK621.out (by decide)) e_) e_))); replace BK631 := Aside0.mk (blk_kept (kb_ BK631.out) hkp (fun hs_ => Or.elim hs_ (fun e_ => (fun e_ => (Kd.R_ne HO624.out BK631.out (by decide)) e_) e_) (fun e_ => (fun e_ => (Kd.R_ne HO629.out BK631.out (by decide)) e_) e_))); replace HO634 := Aside0.mk (Kd.R_mono (ok' := fun k_ => some k_ ≠ (.slice Ao23 t603.length co23 : Value).ownBlock ∧ some k_ ≠ (.slice Ao27 t612.length co27 : Value).ownBlock ∧ some k_ ≠ (.slice Ao34 t622.length co34 : Value).ownBlock ∧ some k_ ≠ (.slice Ao51 t643.length co51 : Value).ownBlock) (Kd.R_keptB ((Kd.R_apart' HO634.out (Kd.R_typed HO629.out) (by decide))) hkp (fun k_ hk_ hs_ => Or.elim hs_ (fun e_ => (hk_.1.1.2) e_) (fun e_ => (hk_.2) e_))) (fun k_ hk_ => ⟨hk_.1.1.1.1.1.2, hk_.1.1.1.1.2, hk_.1.1.1.2, hk_.1.1.2⟩)); replace HO639 := Aside0.mk (Kd.R_mono (ok' := fun k_ => some k_ ≠ (.slice Ao24 t608.length co24 : Value).ownBlock ∧ some k_ ≠ (.slice Ao30 t617.length co30 : Value).ownBlock ∧ some k_ ≠ (.slice Ao38 t627.length co38 : Value).ownBlock ∧ some k_ ≠ (.slice Ao52 t648.length co52 : Value).ownBlock) (Kd.R_keptB ((Kd.R_apart' HO639.out (Kd.R_typed HO624.out) (by decide))) hkp (fun k_ hk_ hs_ => Or.elim hs_ (fun e_ => (hk_.2) e_) (fun e_ => (hk_.1.1.2) e_))) (fun k_ hk_ => ⟨hk_.1.1.1.1.1.2, hk_.1.1.1.1.2, hk_.1.1.1.2, hk_.1.1.2⟩)); replace BK641 := Aside0.mk (blk_kept (kb_ BK641.out) hkp (fun hs_ => Or.elim hs_ (fun e_ => (fun e_ => (Kd.R_ne HO624.out BK641.out (by decide)) e_) e_) (fun e_ => (fun e_ => (Kd.R_ne HO629.out BK641.out (by decide)) e_) e_))); replace HO645 := Aside0.mk (Kd.R_mono (ok' := fun k_ => some k_ ≠ (.slice Ao23 t603.length co23 : Value).ownBlock ∧ some k_ ≠ (.slice Ao27 t612.length co27 : Value).ownBlock ∧ some k_ ≠ (.slice Ao34 t622.length co34 : Value).ownBlock ∧ some k_ ≠ (.slice Ao41 t632.length co41 : Value).ownBlock) (Kd.R_keptB ((Kd.R_apart' HO645.out (Kd.R_typed HO629.out) (by decide))) hkp (fun k_ hk_ hs_ => Or.elim hs_ (fun e_ => (hk_.1.1.2) e_) (fun e_ => (hk_.2) e_))) (fun k_ hk_ => ⟨hk_.1.1.1.1.1.2, hk_.1.1.1.1.2, hk_.1.1.1.2, hk_.1.1.2⟩)); replace HO629 := Aside0.mk (Kd.R_reok rfl hy1 (fun k_ e_ => HO629.out.1 k_ e_)); replace HO650 := Aside0.mk (Kd.R_mono (ok' := fun k_ => some k_ ≠ (.slice Ao24 t608.length co24 : Value).ownBlock ∧ some k_ ≠ (.slice Ao30 t617.length co30 : Value).ownBlock ∧ some k_ ≠ (.slice Ao38 t627.length co38 : Value).ownBlock ∧ some k_ ≠ (.slice Ao46 t637.length co46 : Value).ownBlock) (Kd.R_keptB ((Kd.R_apart' HO650.out (Kd.R_typed HO624.out) (by decide))) hkp (fun k_ hk_ hs_ => Or.elim hs_ (fun e_ => (hk_.2) e_) (fun e_ => (hk_.1.1.2) e_))) (fun k_ hk_ => ⟨hk_.1.1.1.1.1.2, hk_.1.1.1.1.2, hk_.1.1.1.2, hk_.1.1.2⟩)); replace HO624 := Aside0.mk (Kd.R_reok rfl hy0 (fun k_ e_ => HO624.out.1 k_ e_)); replace HB := Aside0.mk hb; clear hb hkp hy0 hy1))
  (try simp only [Act.put, List.setIfInBounds_toArray, List.set_cons_zero, List.set_cons_succ])
  go_cut [42] (fun v42 wc => ∃ (kq : Nat) (x42_16 : Bool), v42 = .bool x42_16 ∧ Aside0 (laws_FnExactMakeSure.j0 kq x42_16 l0_0 a0_1 a0_2 l0_3 a0_4 t612 t615 t616 t617 t620 t632 t635 t636 t637 t640 = some r) ∧ Aside0 (kq ≤ k) ∧ Aside0 (Kd.R Kd.string 9 wc w.heap.size (fun k_ => some k_ ≠ ((.slice Ao34 t622.length co34) : Value).ownBlock ∧ some k_ ≠ ((.slice Ao41 t632.length co41) : Value).ownBlock) (.slice Ao27 t612.length co27) t612) ∧ Aside0 (Kd.R (Kd.int .u8) 5 wc w.heap.size (fun k_ => some k_ ≠ ((.slice Ao38 t627.length co38) : Value).ownBlock ∧ some k_ ≠ ((.slice Ao46 t637.length co46) : Value).ownBlock) (.slice Ao30 t617.length co30) t617) ∧ Aside0 (Kd.R Kd.string 9 wc w.heap.size (fun k_ => some k_ ≠ ((.slice Ao27 t612.length co27) : Value).ownBlock ∧ some k_ ≠ ((.slice Ao41 t632.length co41) : Value).ownBlock) (.slice Ao34 t622.length co34) t654) ∧ Aside0 (Kd.R (Kd.int .u8) 5 wc w.heap.size (fun k_ => some k_ ≠ ((.slice Ao30 t617.length co30) : Value).ownBlock ∧ some k_ ≠ ((.slice Ao46 t637.length co46) : Value).ownBlock) (.slice Ao38 t627.length co38) t655) ∧ Aside0 (Kd.R Kd.string 9 wc w.heap.size (fun k_ => some k_ ≠ ((.slice Ao27 t612.length co27) : Value).ownBlock ∧ some k_ ≠ ((.slice Ao34 t622.length co34) : Value).ownBlock) (.slice Ao41 t632.length co41) t632) ∧ Aside0 (Kd.R (Kd.int .u8) 5 wc w.heap.size (fun k_ => some k_ ≠ ((.slice Ao30 t617.length co30) : Value).ownBlock ∧ some k_ ≠ ((.slice Ao38 t627.length co38) : Value).ownBlock) (.slice Ao46 t637.length co46) t637) ∧ Aside0 (wc.heap[gb601]? = some (.cells #[(.slice A0_0 l0_0.length c0_0), .int .i64 a0_1, .string a0_2, (.slice A0_3 l0_3.length c0_3), .int .i64 a0_4] 71 (0, 0))) ∧ Aside0 (wc.heap[gb621]? = some (.cells #[(.slice Ao27 t612.length co27), .int .i64 t615, .string t616, (.slice Ao30 t617.length co30), .int .i64 t620] 37 (0, 0))) ∧ Aside0 (wc.heap[gb631]? = some (.cells #[(.slice Ao34 t622.length co34), .int .i64 t625, .string t626, (.slice Ao38 t627.length co38), .int .i64 t630] 37 (0, 0))) ∧ Aside0 (wc.heap[gb641]? = some (.cells #[(.slice Ao41 t632.length co41), .int .i64 t635, .string t636, (.slice Ao46 t637.length co46), .int .i64 t640] 37 (0, 0))) ∧ Aside0 (Below w.heap.size w wc))
  case first =>
   have H := HC17.out
   clear HC17
   replace H := itd_ H; obtain ⟨c56b0, H⟩ | ⟨c56b0, H⟩ := H
   ·(first | rw [c56b0] | (simp only [i64_w, i32_w]; rw [c56b0]) | skip)
    have H' := Aside0.mk H
    clear H
    go_wp2
    go_meet
    case rel => exact ⟨_, (true), e1_, H', ⟨le_⟩, ⟨by (with_reducible repeat (first | apply Kd.R_alloc | apply Kd.R_drewN | apply Kd.R_drew)); exact Kd.R_mono HO614.out (fun _ hk => ⟨hk.2.1, hk.2.2.1⟩)⟩, ⟨by (with_reducible repeat (first | apply Kd.R_alloc | apply Kd.R_drewN | apply Kd.R_drew)); exact Kd.R_mono HO619.out (fun _ hk => ⟨hk.2.1, hk.2.2.1⟩)⟩, ⟨by (with_reducible repeat (first | apply Kd.R_alloc | apply Kd.R_drewN | apply Kd.R_drew)); exact Kd.R_mono HO624.out (fun _ hk => ⟨hk.1.1.2, hk.1.2⟩)⟩, ⟨by (with_reducible repeat (first | apply Kd.R_alloc | apply Kd.R_drewN | apply Kd.R_drew)); exact Kd.R_mono HO629.out (fun _ hk => ⟨hk.1.1.2, hk.1.2⟩)⟩, ⟨by (with_reducible repeat (first | apply Kd.R_alloc | apply Kd.R_drewN | apply Kd.R_drew)); exact Kd.R_mono HO634.out (fun _ hk => ⟨hk.2.1, hk.2.2.1⟩)⟩, ⟨by (with_reducible repeat (first | apply Kd.R_alloc | apply Kd.R_drewN | apply Kd.R_drew)); exact Kd.R_mono HO639.out (fun _ hk => ⟨hk.2.1, hk.2.2.1⟩)⟩, ⟨kb_ BK601.out⟩, ⟨kb_ BK621.out⟩, ⟨kb_ BK631.out⟩, ⟨kb_ BK641.out⟩, ⟨bw_ HB⟩⟩
   ·(first | rw [c56b0] | (simp only [i64_w, i32_w]; rw [c56b0]) | skip)
    replace H := bi_ H; obtain ⟨t656, A57, H⟩ := H
    have H' := Aside0.mk H
    clear H
    have hnb58 := NB641_601.out
    have hnc58 := NB601_641.out
    have hnb59 := NB641_621.out
    have hnc59 := NB621_641.out
    have hnb60 := NB641_631.out
    have hnc60 := NB631_641.out
    have hz61 := cz5_ BK641
    have hnb62 := NB621_601.out
    have hnc62 := NB601_621.out
    have hnb63 := NB621_631.out
    have hnc63 := NB631_621.out
    have hz64 := cz5_ BK621
    go_wp2_with (first | (go_at_call 47; (with_reducible refine (laws_eqStore.calls k _ _ t632 t635 t636 _ _ t637 t640 _ _ t612 t615 t616 _ _ t617 t620 t656 _ ?side1 ?side2 ?side3 ?side4 ?side5 ?side6 ?side7 ?side8 A57.out).mono ?_); (case side1 => exact ch_ HO634); (case side2 => exact (cl_ HO634)); (case side3 => exact ch_ HO639); (case side4 => exact (cl_ HO639)); (case side5 => exact ch_ HO614); (case side6 => exact (cl_ HO614)); (case side7 => exact ch_ HO619); (case side8 => exact (cl_ HO619)); rintro e w65 ⟨rfl, hb⟩; replace HO605 := rb_ HO605 hb; replace HO610 := rb_ HO610 hb; replace HO614 := rb_ HO614 hb; replace HO619 := rb_ HO619 hb; replace HO624 := rb_ HO624 hb; replace HO629 := rb_ HO629 hb; replace HO634 := rb_ HO634 hb; replace HO639 := rb_ HO639 hb; replace HO645 := rb_ HO645 hb; replace HO650 := rb_ HO650 hb; replace BK601 := kl_ BK601 hb; replace BK621 := kl_ BK621 hb; replace BK631 := kl_ BK631 hb; replace BK641 := kl_ BK641 hb; replace HB := ss_ HB hb; clear hb))
    go_meet
    case rel => exact ⟨_, (!t656), e1_, H', ⟨le_⟩, ⟨by (with_reducible repeat (first | apply Kd.R_alloc | apply Kd.R_drewN | apply Kd.R_drew)); exact Kd.R_mono HO614.out (fun _ hk => ⟨hk.2.1, hk.2.2.1⟩)⟩, ⟨by (with_reducible repeat (first | apply Kd.R_alloc | apply Kd.R_drewN | apply Kd.R_drew)); exact Kd.R_mono HO619.out (fun _ hk => ⟨hk.2.1, hk.2.2.1⟩)⟩, ⟨by (with_reducible repeat (first | apply Kd.R_alloc | apply Kd.R_drewN | apply Kd.R_drew)); exact Kd.R_mono HO624.out (fun _ hk => ⟨hk.1.1.2, hk.1.2⟩)⟩, ⟨by (with_reducible repeat (first | apply Kd.R_alloc | apply Kd.R_drewN | apply Kd.R_drew)); exact Kd.R_mono HO629.out (fun _ hk => ⟨hk.1.1.2, hk.1.2⟩)⟩, ⟨by (with_reducible repeat (first | apply Kd.R_alloc | apply Kd.R_drewN | apply Kd.R_drew)); exact Kd.R_mono HO634.out (fun _ hk => ⟨hk.2.1, hk.2.2.1⟩)⟩, ⟨by (with_reducible repeat (first | apply Kd.R_alloc | apply Kd.R_drewN | apply Kd.R_drew)); exact Kd.R_mono HO639.out (fun _ hk => ⟨hk.2.1, hk.2.2.1⟩)⟩, ⟨kb_ BK601.out⟩, ⟨kb_ BK621.out⟩, ⟨kb_ BK631.out⟩, ⟨kb_ BK641.out⟩, ⟨bw_ HB⟩⟩
  case rest =>
   clear HC17
   try clear c3b0
   try clear hz19
   try clear hz21
   try clear hz29
   try clear hz31
   try clear hz37
   try clear hz45
   try clear hz47
   try clear hz54
   obtain ⟨kq, x42_16, rfl, HA, HJ16, HO_622000, HO_622003, HO_632000, HO_632003, HO_642000, HO_642003, BK601, BK621, BK631, BK641, HB⟩ := hcut
   have hl632000_16 := (Kd.R_reads' HO_632000.out).1
   rw [hl632000_16] at HO_632000
   (try simp only [hl632000_16])
   (try simp only [hl632000_16] at BK601)
   (try simp only [hl632000_16] at BK621)
   (try simp only [hl632000_16] at BK631)
   (try simp only [hl632000_16] at BK641)
   (try simp only [hl632000_16] at HO_622000)
   (try simp only [hl632000_16] at HO_622003)
   (try simp only [hl632000_16] at HO_632003)
   (try simp only [hl632000_16] at HO_642000)
   (try simp only [hl632000_16] at HO_642003)
   have hl632003_16 := (Kd.R_reads' HO_632003.out).1
   rw [hl632003_16] at HO_632003
   (try simp only [hl632003_16])
   (try simp only [hl632003_16] at BK601)
   (try simp only [hl632003_16] at BK621)
   (try simp only [hl632003_16] at BK631)
   (try simp only [hl632003_16] at BK641)
   (try simp only [hl632003_16] at HO_622000)
   (try simp only [hl632003_16] at HO_622003)
   (try simp only [hl632003_16] at HO_632000)
   (try simp only [hl632003_16] at HO_642000)
   (try simp only [hl632003_16] at HO_642003)
   cases kq with
   | zero => exact absurd HA.out (by simp [laws_FnExactMakeSure.j0])
   | succ kj16 =>
    have H := HA.out
    clear HA
    simp only [laws_FnExactMakeSure.j0] at H
    replace H := inb_ H; obtain ⟨rfl, H⟩ := H
    replace H := bi_ H; obtain ⟨⟨t657, t658, t659⟩, A67, H⟩ := H
    dsimp only at H
    replace H := bi_ H; obtain ⟨t660, A68, H⟩ := H
    replace H := ind_ H; obtain ⟨c69b0, H⟩ := H
    replace H := ip_ H; obtain ⟨c70, H⟩ := H
    have c70b0 : (t660 == t657) = true := beq_iff_eq.mpr c70
    have c70b1 : (t660 != t657) = false := bne_eq_false_iff_eq.mpr c70
    clear c70
    replace H := bi_ H; obtain ⟨⟨t661, t664, t665, t666, t669⟩, A71, H⟩ := H
    dsimp only at H
    replace H := bi_ H; obtain ⟨⟨t670, t673, t674, t675, t678⟩, A72, H⟩ := H
    dsimp only at H
    replace H := bi_ H; obtain ⟨t680, A73, H⟩ := H
    replace H := ipb_ H; obtain ⟨rfl, H⟩ := H
    replace H := bi_ H; obtain ⟨t681, A75, H⟩ := H
    replace H := ind_ H; obtain ⟨c76b0, H⟩ := H
    replace H := ip_ H; obtain ⟨c77, H⟩ := H
    have c77b0 : (t681 == t657) = true := beq_iff_eq.mpr c77
    have c77b1 : (t681 != t657) = false := bne_eq_false_iff_eq.mpr c77
    clear c77
    obtain rfl := Option.some.inj H
    have hnb78 := NB641_601.out
    have hnc78 := NB601_641.out
    have hnb79 := NB641_621.out
    have hnc79 := NB621_641.out
    have hnb80 := NB641_631.out
    have hnc80 := NB631_641.out
    have hz81 := cz5_ BK641
    go_wp2_with (first | ((with_reducible refine gq_ 48 45 ?_); refine gc_ 45 Try.func48 (laws_markStore.calls kj16 (fun k_ => some k_ = (.slice Ao41 t632.length co41 : Value).ownBlock) (.slice Ao41 t632.length co41) t632 t635 t636 (fun k_ => some k_ = (.slice Ao46 t637.length co46 : Value).ownBlock) (.slice Ao46 t637.length co46) t637 t640 1 t657 t658 t659 w _ (bw_ HB) (Kd.R_tight rfl HO_642000.out) (Kd.R_tight rfl HO_642003.out) A67.out) ?_; rintro e w82 ⟨rfl, hy0, hy1, hb, hkp⟩; refine ⟨_, rfl, ?_⟩; replace HO_622000 := Aside0.mk (Kd.R_mono (ok' := fun k_ => some k_ ≠ (.slice Ao34 t654.length co34 : Value).ownBlock ∧ some k_ ≠ (.slice Ao41 t632.length co41 : Value).ownBlock) (Kd.R_keptB ((Kd.R_apart' HO_622000.out (Kd.R_typed HO_642003.out) (by decide))) hkp (fun k_ hk_ hs_ => Or.elim hs_ (fun e_ => (hk_.1.2) e_) (fun e_ => (hk_.2) e_))) (fun k_ hk_ => ⟨hk_.1.1.1, hk_.1.1.2⟩)); replace HO_622003 := Aside0.mk (Kd.R_mono (ok' := fun k_ => some k_ ≠ (.slice Ao38 t655.length co38 : Value).ownBlock ∧ some k_ ≠ (.slice Ao46 t637.length co46 : Value).ownBlock) (Kd.R_keptB ((Kd.R_apart' HO_622003.out (Kd.R_typed HO_642000.out) (by decide))) hkp (fun k_ hk_ hs_ => Or.elim hs_ (fun e_ => (hk_.2) e_) (fun e_ => (hk_.1.2) e_))) (fun k_ hk_ => ⟨hk_.1.1.1, hk_.1.1.2⟩)); replace HO_632000 := Aside0.mk (Kd.R_mono (ok' := fun k_ => some k_ ≠ (.slice Ao27 t612.length co27 : Value).ownBlock ∧ some k_ ≠ (.slice Ao41 t632.length co41 : Value).ownBlock) (Kd.R_keptB ((Kd.R_apart' HO_632000.out (Kd.R_typed HO_642003.out) (by decide))) hkp (fun k_ hk_ hs_ => Or.elim hs_ (fun e_ => (hk_.1.2) e_) (fun e_ => (hk_.2) e_))) (fun k_ hk_ => ⟨hk_.1.1.1, hk_.1.1.2⟩)); replace HO_632003 := Aside0.mk (Kd.R_mono (ok' := fun k_ => some k_ ≠ (.slice Ao30 t617.length co30 : Value).ownBlock ∧ some k_ ≠ (.slice Ao46 t637.length co46 : Value).ownBlock) (Kd.R_keptB ((Kd.R_apart' HO_632003.out (Kd.R_typed HO_642000.out) (by decide))) hkp (fun k_ hk_ hs_ => Or.elim hs_ (fun e_ => (hk_.2) e_) (fun e_ => (hk_.1.2) e_))) (fun k_ hk_ => ⟨hk_.1.1.1, hk_.1.1.2⟩)); replace BK601 := Aside0.mk (blk_kept (kb_ BK601.out) hkp (fun hs_ => Or.elim hs_ (fun e_ => (fun e_ => (Kd.R_ne HO_642000.out BK601.out (by decide)) e_) e_) (fun e_ => (fun e_ => (Kd.R_ne HO_642003.out BK601.out (by decide)) e_) e_))); replace BK621 := Aside0.mk (blk_kept (kb_ BK621.out) hkp (fun hs_ => Or.elim hs_ (fun e_ => (fun e_ => (Kd.R_ne HO_642000.out BK621.out (by decide)) e_) e_) (fun e_ => (fun e_ => (Kd.R_ne HO_642003.out BK621.out (by decide)) e_) e_))); replace BK631 := Aside0.mk (blk_kept (kb_ BK631.out) hkp (fun hs_ => Or.elim hs_ (fun e_ => (fun e_ => (Kd.R_ne HO_642000.out BK631.out (by decide)) e_) e_) (fun e_ => (fun e_ => (Kd.R_ne HO_642003.out BK631.out (by decide)) e_) e_))); replace BK641 := Aside0.mk (blk_kept (kb_ BK641.out) hkp (fun hs_ => Or.elim hs_ (fun e_ => (fun e_ => (Kd.R_ne HO_642000.out BK641.out (by decide)) e_) e_) (fun e_ => (fun e_ => (Kd.R_ne HO_642003.out BK641.out (by decide)) e_) e_))); replace HO_642000 := Aside0.mk (Kd.R_reok rfl hy0 (fun k_ e_ => HO_642000.out.1 k_ e_)); replace HO_642003 := Aside0.mk (Kd.R_reok rfl hy1 (fun k_ e_ => HO_642003.out.1 k_ e_)); replace HB := Aside0.mk hb; clear hb hkp hy0 hy1; have hz83 := cz5_ BK641) | ((with_reducible refine gk_ 49 ?_); refine gl_ 48 Try.func49 #[.agg #[.slice Ao41 t658.length co41, .int .i64 t635, .string t636, .slice Ao46 t659.length co46, .int .i64 t640], .int .i64 1] ?_ (hargs := (by (try simp only [List.map_toArray, List.map_cons, List.map_nil]); first | done | (rw [show t658.length = t632.length from (Kd.R_reads' HO_642000.out).1.symm, show t659.length = t637.length from (Kd.R_reads' HO_642003.out).1.symm] <;> rfl) | rfl | (simp only [List.length_drop, List.length_take]; rfl))); (with_reducible refine (laws_heldStore.calls kj16 _ _ t658 t635 t636 _ _ t659 t640 1 t660 _ ?side1 ?side2 ?side3 ?side4 A68.out).mono ?_); (case side1 => exact ch_ HO_642000); (case side2 => rw [show t658.length = t632.length from (Kd.R_reads' HO_642000.out).1.symm]; exact (cl_ HO_642000)); (case side3 => exact ch_ HO_642003); (case side4 => rw [show t659.length = t637.length from (Kd.R_reads' HO_642003.out).1.symm]; exact (cl_ HO_642003)); rintro e w84 ⟨rfl, hb⟩; refine ⟨_, rfl, ?_⟩; replace HO_622000 := rb_ HO_622000 hb; replace HO_622003 := rb_ HO_622003 hb; replace HO_632000 := rb_ HO_632000 hb; replace HO_632003 := rb_ HO_632003 hb; replace HO_642000 := rb_ HO_642000 hb; replace HO_642003 := rb_ HO_642003 hb; replace BK601 := kl_ BK601 hb; replace BK621 := kl_ BK621 hb; replace BK631 := kl_ BK631 hb; replace BK641 := kl_ BK641 hb; replace HB := ss_ HB hb; clear hb; have hnb85 := NB601_621.out; have hnc85 := NB621_601.out; have hnb86 := NB601_631.out; have hnc86 := NB631_601.out; have hz87 := cz5_ BK601) | ((with_reducible refine gq_ 46 55 ?_); refine gc_ 55 Try.func46 (laws_toStore.calls kj16 _ _ l0_0 a0_1 a0_2 _ _ l0_3 a0_4 t661 t664 t665 t666 t669 _ (cb_ HR0_0 HB) HC0_0.out (cb_ HR0_3 HB) HC0_3.out A71.out) ?_; rintro e w88 ⟨v662, v667, rfl, ho0, ho1, hb⟩; refine ⟨_, rfl, ?_⟩; have HO663 := Aside0.mk (Kd.R_lower (Kd.R_new' (Kd.R_new' (Kd.R_new' ho0 (lt_ HO_622000)) (lt_ HO_632000)) (lt_ HO_642000)) (sz_ HB)); replace HO_622000 := re_ HO_622000 ho0 hb; replace HO_632000 := re_ HO_632000 ho0 hb; replace HO_642000 := re_ HO_642000 ho0 hb; have HO668 := Aside0.mk (Kd.R_lower (Kd.R_new' (Kd.R_new' (Kd.R_new' ho1 (lt_ HO_622003)) (lt_ HO_632003)) (lt_ HO_642003)) (sz_ HB)); replace HO_622003 := re_ HO_622003 ho1 hb; replace HO_632003 := re_ HO_632003 ho1 hb; replace HO_642003 := re_ HO_642003 ho1 hb; replace BK601 := kl_ BK601 hb; replace BK621 := kl_ BK621 hb; replace BK631 := kl_ BK631 hb; replace BK641 := kl_ BK641 hb; replace HB := ss_ HB hb; clear hb ho0 ho1; obtain ⟨Ao89, co89, eo89⟩ := Kd.R_slice HO663.out; subst eo89; obtain ⟨Ao90, co90, eo90⟩ := Kd.R_slice HO668.out; subst eo90) | ((with_reducible refine gq_ 42 56 ?_); refine gc_ 56 Try.func42 (impl_MakeSure.calls kj16 _ _ t661 t664 t665 _ _ t666 t669 t670 t673 t674 t675 t678 _ (ch_ HO663) (cl_ HO663) (ch_ HO668) (cl_ HO668) A72.out) ?_; rintro e w91 ⟨v671, v676, rfl, ho0, ho1, hb⟩; refine ⟨_, rfl, ?_⟩; have HO672 := Aside0.mk (Kd.R_lower (Kd.R_new' (Kd.R_new' (Kd.R_new' (Kd.R_new' ho0 (lt_ HO_622000)) (lt_ HO_632000)) (lt_ HO_642000)) (lt_ HO663)) (sz_ HB)); replace HO_622000 := re_ HO_622000 ho0 hb; replace HO_632000 := re_ HO_632000 ho0 hb; replace HO_642000 := re_ HO_642000 ho0 hb; replace HO663 := re_ HO663 ho0 hb; have HO677 := Aside0.mk (Kd.R_lower (Kd.R_new' (Kd.R_new' (Kd.R_new' (Kd.R_new' ho1 (lt_ HO_622003)) (lt_ HO_632003)) (lt_ HO_642003)) (lt_ HO668)) (sz_ HB)); replace HO_622003 := re_ HO_622003 ho1 hb; replace HO_632003 := re_ HO_632003 ho1 hb; replace HO_642003 := re_ HO_642003 ho1 hb; replace HO668 := re_ HO668 ho1 hb; replace BK601 := kl_ BK601 hb; replace BK621 := kl_ BK621 hb; replace BK631 := kl_ BK631 hb; replace BK641 := kl_ BK641 hb; replace HB := ss_ HB hb; clear hb ho0 ho1) | ((with_reducible refine gd_ 10 ?_); refine bx_ 10 37 #[.slice none 0 0, .int .i64 0, .string (⟨#[]⟩ : ByteArray), .slice none 0 0, .int .i64 0] ?_; intro gb679 hg w92 hbox hb; replace HO_622000 := rb_ HO_622000 hb; replace HO_622003 := rb_ HO_622003 hb; replace HO_632000 := rb_ HO_632000 hb; replace HO_632003 := rb_ HO_632003 hb; replace HO_642000 := rb_ HO_642000 hb; replace HO_642003 := rb_ HO_642003 hb; replace HO663 := rb_ HO663 hb; replace HO668 := rb_ HO668 hb; replace HO672 := rb_ HO672 hb; replace HO677 := rb_ HO677 hb; have BK679 := Aside0.mk hbox; have GW679 := gg_ hg HB; have GE679 := GW679; replace HB := ss_ HB hb; have NB601_679 := nla_ hg BK601; have NB679_601 := nga_ hg BK601; replace BK601 := kl_ BK601 hb; have NB621_679 := nla_ hg BK621; have NB679_621 := nga_ hg BK621; replace BK621 := kl_ BK621 hb; have NB631_679 := nla_ hg BK631; have NB679_631 := nga_ hg BK631; replace BK631 := kl_ BK631 hb; have NB641_679 := nla_ hg BK641; have NB679_641 := nga_ hg BK641; replace BK641 := kl_ BK641 hb; clear hb hbox hg; obtain ⟨Ao93, co93, eo93⟩ := Kd.R_slice HO672.out; subst eo93; have hnb94 := NB679_601.out; have hnc94 := NB601_679.out; have hnb95 := NB679_621.out; have hnc95 := NB621_679.out; have hnb96 := NB679_631.out; have hnc96 := NB631_679.out; have hnb97 := NB679_641.out; have hnc97 := NB641_679.out; have hz98 := cz5_ BK679; obtain ⟨Ao99, co99, eo99⟩ := Kd.R_slice HO677.out; subst eo99; have hnb100 := NB621_631.out; have hnc100 := NB631_621.out; have hz101 := cz5_ BK621) | ((with_reducible refine gq_ 47 59 ?_); refine gc_ 59 Try.func47 (laws_eqStore.calls kj16 _ _ t670 t673 t674 _ _ t675 t678 _ _ t612 t615 t616 _ _ t617 t620 true _ (chf_ HO672 BK679) (cl_ HO672) (chf_ HO677 BK679) (cl_ HO677) (chf_ HO_622000 BK679) (cl_ HO_622000) (chf_ HO_622003 BK679) (cl_ HO_622003) A73.out) ?_; rintro e w102 ⟨rfl, hb⟩; refine ⟨_, rfl, ?_⟩; replace HO_622000 := rbf_ HO_622000 BK679 hb; replace HO_622003 := rbf_ HO_622003 BK679 hb; replace HO_632000 := rbf_ HO_632000 BK679 hb; replace HO_632003 := rbf_ HO_632003 BK679 hb; replace HO_642000 := rbf_ HO_642000 BK679 hb; replace HO_642003 := rbf_ HO_642003 BK679 hb; replace HO663 := rbf_ HO663 BK679 hb; replace HO668 := rbf_ HO668 BK679 hb; replace HO672 := rbf_ HO672 BK679 hb; replace HO677 := rbf_ HO677 BK679 hb; replace BK601 := kp_ BK601 hb; replace BK621 := kp_ BK621 hb; replace BK631 := kp_ BK631 hb; replace BK641 := kp_ BK641 hb; replace BK679 := kp_ BK679 hb; replace HB := ss_ HB hb; clear hb; have hz103 := cz5_ BK641) | ((with_reducible refine gk_ 49 ?_); refine gl_ 63 Try.func49 #[.agg #[.slice Ao41 t658.length co41, .int .i64 t635, .string t636, .slice Ao46 t659.length co46, .int .i64 t640], .int .i64 1] ?_ (hargs := (by (try simp only [List.map_toArray, List.map_cons, List.map_nil]); first | done | (rw [show t658.length = t632.length from (Kd.R_reads' HO_642000.out).1.symm, show t659.length = t637.length from (Kd.R_reads' HO_642003.out).1.symm] <;> rfl) | rfl | (simp only [List.length_drop, List.length_take]; rfl))); (with_reducible refine (laws_heldStore.calls kj16 _ _ t658 t635 t636 _ _ t659 t640 1 t681 _ ?side1 ?side2 ?side3 ?side4 A75.out).mono ?_); (case side1 => exact ch_ HO_642000); (case side2 => rw [show t658.length = t632.length from (Kd.R_reads' HO_642000.out).1.symm]; exact (cl_ HO_642000)); (case side3 => exact ch_ HO_642003); (case side4 => rw [show t659.length = t637.length from (Kd.R_reads' HO_642003.out).1.symm]; exact (cl_ HO_642003)); rintro e w104 ⟨rfl, hb⟩; refine ⟨_, rfl, ?_⟩; replace HO_622000 := rb_ HO_622000 hb; replace HO_622003 := rb_ HO_622003 hb; replace HO_632000 := rb_ HO_632000 hb; replace HO_632003 := rb_ HO_632003 hb; replace HO_642000 := rb_ HO_642000 hb; replace HO_642003 := rb_ HO_642003 hb; replace HO663 := rb_ HO663 hb; replace HO668 := rb_ HO668 hb; replace HO672 := rb_ HO672 hb; replace HO677 := rb_ HO677 hb; replace BK601 := kl_ BK601 hb; replace BK621 := kl_ BK621 hb; replace BK631 := kl_ BK631 hb; replace BK641 := kl_ BK641 hb; replace BK679 := kl_ BK679 hb; replace HB := ss_ HB hb; clear hb))
    go_ret
    exact ⟨e2_, bw_ HB⟩
end Go.Proofs.Ytjnnglphdaemaaa.Q
end

section
/- The row of the law FnExactMakeSure out of its pure statement and the printed walk. -/
namespace Go.Proofs.Ytjnnglphdaemaaa.Q
open Go.RowKit Go.Proofs.Ytjnnglphdaemaaa.XO Go.Proofs.YtjnnglphdaemaaaW.PrintWords Go.ChangeShapes Go.WideShapes Go.ChangeAt
set_option linter.unusedVariables false
set_option linter.unusedSimpArgs false
def laws_FnExactMakeSure.Pure : Prop := ∀ (x0 : S71), G71 x0 → ∃ k, laws_FnExactMakeSure.f k x0.f0.f0 x0.f0.f1.f0 x0.f0.f1.f1 x0.f1 x0.f2 = some true
namespace RFnExactMakeSure
theorem own : ownKnob Try.prog.godebug = none := by kernel_rfl
theorem laidOut : laidOutB Try.prog = true := by kernel_rfl
set_option maxRecDepth 100000 in
theorem lifted (PU : laws_FnExactMakeSure.Pure) (os : Os) (started : os.Started) (H : Type) (enc : TypeId × Value → H) :
    ReturnsInHanded {} Try.checked os 7 .any (Rows.fnExactMakeSureSpec.pre6 enc Try.prog Try.f7 Rows.fnExactMakeSureRow.domain false) (Rows.fnExactMakeSureSpec.post enc Try.prog Try.f7 false true false false) := by
  refine returnsInHanded_of_change_sized (C := Try.checked) own started (by kernel_rfl) Try.func7
    (ChangeSpec.witness6 (enc := enc) (C := Try.checked) false ⟨#[], #[.agg #[.slice none 0 0, .int .i64 0, .string ByteArray.empty, .slice none 0 0, .int .i64 0]], []⟩ 8 (by kernel_rfl) (by kernel_rfl) (by kernel_rfl) (by kernel_rfl)) ?_
  intro W base args ds gs before hval0 hW hcnd hsz0 _
  have hval : ∀ (j : Nat) t v, Try.f7.params[j]? = some t → args[j]? = some v → Value.okWide Try.prog W .any base t v := hval0
  have hW' := hW
  obtain ⟨p, q, hA0, hV, rfl, hfz, hnd⟩ := hW
  have hA : DataW.TrodAll enc Try.prog W 0 (fun _ => true) true Try.f7.params.toList args.toList ds p := hA0
  rw [Try.params7] at hA hval
  obtain ⟨v0, vs0, d0, ds0, p0, q0, hargs, rfl, rfl, h0, r0⟩ := trodAll_cons hA
  obtain ⟨rfl, rfl, rfl⟩ := trodAll_nil r0
  obtain rfl : args = #[v0] := by cases args; simp_all
  obtain ⟨rfl, rfl⟩ := trodVars_none hV
  have kk0 := h0
  have lt0 : ∀ x ∈ p0, x.block < W.heap.size := by obtain ⟨m, hm⟩ := kk0; exact DataW.trod_lt m _ _ _ hm
  obtain ⟨cs0, rfl, _⟩ := okWide_struct Try.underlying71 (hval 0 71 v0 rfl rfl)
  obtain ⟨fu0, hf0⟩ := h0
  obtain ⟨x0, hK0, g0⟩ := opens71 hf0
  obtain ⟨A0_0, c0_0, A0_3, c0_3, he0, hc0_0, hr0_0, hc0_3, hr0_3⟩ := k71_open hK0
  obtain rfl : cs0 = #[.slice A0_0 x0.f0.f0.length c0_0, .int .i64 x0.f0.f1.f0, .string x0.f0.f1.f1, .slice A0_3 x0.f1.length c0_3, .int .i64 x0.f2] := by cases cs0; simpa [Value.cells] using he0
  clear hA0 hval0 hsz0
  obtain ⟨k, hp⟩ := PU x0 g0
  refine (laws_FnExactMakeSure.calls k _ _ x0.f0.f0 x0.f0.f1.f0 x0.f0.f1.f1 _ _ x0.f1 x0.f2 true W hr0_0 hc0_0 hr0_3 hc0_3 hp).mono fun e W' ⟨he, bel0⟩ => ?_
  have bel : Below W.heap.size W W' := bel0
  subst he
  exact ⟨_, rfl, _, _, _, [], _, [], hW', trodAll_mk1 (shut_bool Try.underlying4 _), (trodAll_cons_mk (Below.trod laidOut (by kernel_rfl) (of_decide_eq_true (by kernel_rfl)) kk0 bel lt0) trodAll_mk0), rfl, bel.frame _, fun h => by cases h⟩
theorem over (PU : laws_FnExactMakeSure.Pure) : Rows.fnExactMakeSureRow.holds Try.pinned (OpenSpec.ofChange Rows.fnExactMakeSureSpec) :=
  OpenClaim.holds_of_wide 7 Try.f7 rfl rfl rfl rfl rfl rfl rfl ⟨rfl, rfl, rfl, rfl, rfl⟩ rfl rfl rfl rfl rfl (by kernel_rfl) Try.func7 (by kernel_rfl)
    (of_decide_eq_true (by kernel_rfl)) (by unfold Func.isWrapper; first | (rw [if_pos (by decide +kernel)]; kernel_rfl) | (rw [if_neg (by decide +kernel)]; exact ⟨rfl, rfl⟩))
    (fun os started H enc _ => lifted PU os started H enc)
end RFnExactMakeSure
theorem FnExactMakeSure_row (PU : laws_FnExactMakeSure.Pure) : Rows.FnExactMakeSureSaid := RFnExactMakeSure.over PU
end Go.Proofs.Ytjnnglphdaemaaa.Q
end

section
/- The program's MakeSure and the reference's return the same for every store; no condition. -/
namespace Go.Proofs.Ytjnnglphdaemaaa.Q
open Go.RowKit Go.Proofs.Ytjnnglphdaemaaa.B Go.Proofs.YtjnnglphdaemaaaW.PrintWords
set_option linter.unusedVariables false

theorem pure_FnExactMakeSure : laws_FnExactMakeSure.Pure := by
  intro x g
  refine Ev.rounds (g := fun k => laws_FnExactMakeSure.f k x.f0.f0 x.f0.f1.f0 x.f0.f1.f1 x.f1 x.f2) ?_
  obtain ⟨⟨⟨g1, g2⟩, g3, g4⟩, g5, g6⟩ := g
  generalize x.f0.f0 = l at *
  generalize x.f0.f1.f0 = n at *
  generalize x.f0.f1.f1 = s at *
  generalize x.f1 = b at *
  generalize x.f2 = u at *
  have hb : InB b := int_bytes g5.2
  unfold laws_FnExactMakeSure.f
  obtain ⟨r, hr, hc⟩ := szStore_ev l n s b u 1048576 (by omega) (by omega) g1 g2 g4 g5.1
  refine Ev.bind hr ?_
  rcases hc with hc | ⟨hc, hc1⟩
  · exact Ev.pos hc (Ev.now _)
  · have ht := total_nonneg l
    have hT := toStore_ev l n s b u (by omega) (by omega)
    have hs := total_small (l := l) (by omega)
    obtain ⟨v, q1, q2⟩ := makeSure_both l n s b u hb (by omega) (by omega) hs
    have hE := eqStore_ev l n s b u (by omega) (by omega)
    have hE2 := eqStore_ev l n s b v (by omega) (by omega)
    obtain ⟨M, hM, hM1, _⟩ := markStore_ev l n s b u 1 (by omega) (by omega)
    obtain ⟨M2, hM2, hM3, hM4⟩ := markStore_ev l n s b v 1 (by omega) (by omega)
    have hh := heldStore_ev M2 n s b.length v 1 (by omega) (by omega) hM4
    rw [hM3] at hh
    refine Ev.neg (by omega) (Ev.bind hT (Ev.bind q1 (Ev.bind hT (Ev.bind q2 (Ev.bind hE2 (Ev.pos rfl (Ev.bind hT (Ev.bind hE (Ev.pos rfl (Ev.bind hM (Ev.neg (by simp only; omega) (Ev.bind hE2 ?_))))))))))))
    refine Ev.step (fun k => by simp only [laws_FnExactMakeSure.j0]; rfl) ?_
    refine Ev.neg (by simp) (Ev.bind hM2 (Ev.bind hh (Ev.neg (by omega) (Ev.pos rfl (Ev.bind hT (Ev.bind q2 (Ev.bind hE2 (Ev.pos rfl (Ev.bind hh (Ev.neg (by omega) (Ev.pos rfl (Ev.now _)))))))))))) 
end Go.Proofs.Ytjnnglphdaemaaa.Q
namespace Go.Proofs.Ytjnnglphdaemaaa
theorem fnExactMakeSure_holds : Rows.FnExactMakeSureSaid := Q.FnExactMakeSure_row Q.pure_FnExactMakeSure
end Go.Proofs.Ytjnnglphdaemaaa
end

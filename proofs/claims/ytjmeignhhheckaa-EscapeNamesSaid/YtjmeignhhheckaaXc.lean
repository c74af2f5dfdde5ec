/- Part 3 of the proof: contracts of the functions that are reached, and the plain law. -/
import Derived.Test.YtjmeignhhheckaaXb
import Derived.Laws.BitsAllLaws
import Derived.Laws.ShiftsVar
import Derived.RangeFuncBox
import Derived.RangeFuncLeaves
import Derived.Shelf.Abstract
import Derived.OwnWalkIn
import Derived.TacticsInMore
import Derived.LoopNIn
import Derived.LoopIn
import Derived.Sort.CutIn
import Derived.Deep.MidRow
import Derived.Shelf.Sort.Plain
import Derived.Sort.OwnSortedInts
import Derived.ChangeKeysEq
import Derived.Stop.BytesEq
set_option linter.unusedVariables false
set_option linter.unusedSimpArgs false
namespace Go.Proofs.Ytjmeignhhheckaa.Q
open Go.RowKit Go.Proofs.YtjmeignhhheckaaW.PrintWords Go.Proofs.YtjmeignhhheckaaW.PrintLast Go.Proofs.YtjmeignhhheckaaW.PrintMore
attribute [local go_sem] max2_int min2_int max_two min_two max_three min_three max_four min_four   -- for this text's walks alone
set_option linter.unusedVariables false
set_option linter.unusedSimpArgs false
mutual
def ir_counts.l0 : Nat → Int → List (S36) → Int → Int → List Bool → Int → List (S36) → Option (Int)
  | 0, _, _, _, _, _, _, _ => none
  | k + 1, x3, x7, x8, x9, x109000, x109001, x109002 => if x9 < x8 then (if 0 ≤ x9 then (if x9 < (x7.length : Int) then (ir_counts.l0 k (mn (wrap64 (x3 + (((rd_T36 x7 x9).f0).length : Int))) 8193) x7 x8 (wrap64 (x9 + 1)) x109000 x109001 x109002) else (none)) else (none)) else (if (x109000.length : Int) > 1024 then (ir_counts.j1 k (decide ((x109000.length : Int) > 1024)) x109000 x109001 x109002) else (if (x109002.length : Int) > 4096 then (ir_counts.j1 k (decide ((x109002.length : Int) > 4096)) x109000 x109001 x109002) else (if x109001 > 8192 then (ir_counts.j1 k (decide (x109001 > 8192)) x109000 x109001 x109002) else (ir_counts.j1 k (decide (x3 > 8192)) x109000 x109001 x109002))))
def ir_counts.j1 : Nat → Bool → List Bool → Int → List (S36) → Option (Int)
  | 0, _, _, _, _ => none
  | k + 1, x20, x109000, x109001, x109002 => if x20 = true then (some 3) else (if (x109002.length : Int) = 0 then (some 14) else (if x109001 < 0 then (some 14) else (some 0)))
end
def ir_counts.f (k : Nat) (l0_0 : List Bool) (a0_1 : Int) (l0_2 : List (S36)) : Option (Int) := ir_counts.l0 k 0 l0_2 (l0_2.length : Int) 0 l0_0 a0_1 l0_2
theorem ir_counts.mono_l : ∀ k, (∀ y0 y1 y2 y3 y4 y5 y6, LeO (ir_counts.l0 k y0 y1 y2 y3 y4 y5 y6) (ir_counts.l0 (k + 1) y0 y1 y2 y3 y4 y5 y6)) ∧ (∀ y0 y1 y2 y3, LeO (ir_counts.j1 k y0 y1 y2 y3) (ir_counts.j1 (k + 1) y0 y1 y2 y3))
  | 0 => ⟨fun _ _ _ _ _ _ _ r h => by simp [ir_counts.l0] at h, fun _ _ _ _ r h => by simp [ir_counts.j1] at h⟩
  | k + 1 => by
    obtain ⟨ih0, ih1⟩ := ir_counts.mono_l k
    refine ⟨?_, ?_⟩
    · intro y0 y1 y2 y3 y4 y5 y6
      unfold ir_counts.l0
      repeat' first
      | (with_reducible exact ih0 _ _ _ _ _ _ _)
      | (with_reducible exact ih1 _ _ _ _)
      | (with_reducible exact LeO.refl _)
      | (with_reducible exact LeO.none _)
      | (with_reducible refine LeO.ite ?_ ?_)
      | (with_reducible refine LeO.bind ?_ (fun _ => ?_))
      | exact ih0 _ _ _ _ _ _ _
      | exact ih1 _ _ _ _
      | exact LeO.none _
      | refine LeO.ite ?_ ?_
      | refine LeO.bind ?_ (fun _ => ?_)
    · intro y0 y1 y2 y3
      unfold ir_counts.j1
      repeat' first
      | (with_reducible exact ih0 _ _ _ _ _ _ _)
      | (with_reducible exact ih1 _ _ _ _)
      | (with_reducible exact LeO.refl _)
      | (with_reducible exact LeO.none _)
      | (with_reducible refine LeO.ite ?_ ?_)
      | (with_reducible refine LeO.bind ?_ (fun _ => ?_))
      | exact ih0 _ _ _ _ _ _ _
      | exact ih1 _ _ _ _
      | exact LeO.none _
      | refine LeO.ite ?_ ?_
      | refine LeO.bind ?_ (fun _ => ?_)
theorem ir_counts.mono : ∀ a0 a1 a2 k, LeO (ir_counts.f k a0 a1 a2) (ir_counts.f (k + 1) a0 a1 a2) := by
  intro a0 a1 a2 k
  obtain ⟨ih0, ih1⟩ := ir_counts.mono_l k
  unfold ir_counts.f
  repeat' first
      | (with_reducible exact ih0 _ _ _ _ _ _ _)
      | (with_reducible exact ih1 _ _ _ _)
      | (with_reducible exact LeO.refl _)
      | (with_reducible exact LeO.none _)
      | (with_reducible refine LeO.ite ?_ ?_)
      | (with_reducible refine LeO.bind ?_ (fun _ => ?_))
      | exact ih0 _ _ _ _ _ _ _
      | exact ih1 _ _ _ _
      | exact LeO.none _
      | refine LeO.ite ?_ ?_
      | refine LeO.bind ?_ (fun _ => ?_)
set_option maxHeartbeats 8000000 in
set_option maxRecDepth 100000 in
theorem ir_counts.calls (k : Nat) (A0_0 : Option Addr) (c0_0 : Nat) (l0_0 : List Bool) (a0_1 : Int) (A0_2 : Option Addr) (c0_2 : Nat) (l0_2 : List (S36)) (r : Int) (w : World) (hr0_0 : Kd.C Kd.bool w A0_0 l0_0.length l0_0) (hc0_0 : l0_0.length ≤ c0_0) (hr0_2 : Kd.C k36 w A0_2 l0_2.length l0_2) (hc0_2 : l0_2.length ≤ c0_2) (h : ir_counts.f k l0_0 a0_1 l0_2 = some r) :
    Calls Try.prog 94 #[.agg #[.slice A0_0 l0_0.length c0_0, .int .i64 a0_1, .slice A0_2 l0_2.length c0_2]] w fun e w' => e = .returned (.int .i64 r) ∧ Below w.heap.size w w' := by
  have hu25 := Try.underlying25
  have hu36 := Try.underlying36
  have HR0_0 := Aside0.mk hr0_0
  have HC0_0 := Aside0.mk hc0_0
  clear hr0_0 hc0_0
  have HR0_2 := Aside0.mk hr0_2
  have HC0_2 := Aside0.mk hc0_2
  clear hr0_2 hc0_2
  have HB := Aside0.mk (Below.refl w.heap.size w)
  have H : (ir_counts.l0 k 0 l0_2 (l0_2.length : Int) 0 l0_0 a0_1 l0_2) = some r := h
  clear h
  have H' := Aside0.mk H
  clear H
  go_enter Try.func94, Try.ntmps94
  go_wp2_with (first | ((with_reducible refine gate_dst (N := 1) rfl ?_); refine box_event ?hg (N := 1) ?hd (cs := #[.slice A0_0 l0_0.length c0_0, .int .i64 a0_1, .slice A0_2 l0_2.length c0_2]) (t := 25) ?hr ?_; (case hd => rfl); (case hg => rfl); (case hr => first | (go_simp; done) | (go_simp; rfl)); intro gb108 hg w2 hbox hb; have n0_ := Aside0.mk (below_step (by repeat (first | (with_reducible first | exact HB.out | apply below_alloc | apply pw_below_drewN | apply below_drew1) | exact HB.out)) hb); have n1_ := Aside0.mk (hbox); have n2_ := Aside0.mk ((by rw [hg]; exact (below_size (by repeat (first | (with_reducible first | exact HB.out | apply below_alloc | apply pw_below_drewN | apply below_drew1) | exact HB.out))) : w.heap.size ≤ gb108)); have n3_ := Aside0.mk ((by rw [hg]; exact (below_size (by repeat (first | (with_reducible first | exact HB.out | apply below_alloc | apply pw_below_drewN | apply below_drew1) | exact HB.out))) : w.heap.size ≤ gb108)); clear HB; have HB := n0_; have BK108 := n1_; have GW108 := n2_; have GE108 := n3_; clear n0_ n1_ n2_ n3_; clear hb hbox hg; have hcz3_0 : w2.cell? ⟨gb108, 0, none⟩ = some (.slice A0_0 l0_0.length c0_0) := (blk_cell BK108.out 0).trans rfl; have hcz3_1 : w2.cell? ⟨gb108, 1, none⟩ = some (.int .i64 a0_1) := (blk_cell BK108.out 1).trans rfl; have hcz3_2 : w2.cell? ⟨gb108, 2, none⟩ = some (.slice A0_2 l0_2.length c0_2) := (blk_cell BK108.out 2).trans rfl; have hfz3_0 := blk_frozen BK108.out 0; have hfz3_1 := blk_frozen BK108.out 1; have hfz3_2 := blk_frozen BK108.out 2))
  go_loopg [3, 9] k (fun kq v3 v9 w' => ∃ (x3_1 : Int) (x9_1 : Int), v3 = .int .i64 x3_1 ∧ v9 = .int .i64 x9_1 ∧ Aside0 (ir_counts.l0 kq x3_1 l0_2 (l0_2.length : Int) x9_1 l0_0 a0_1 l0_2 = some r) ∧ Aside0 (kq ≤ k) ∧ Aside0 (w'.heap[gb108]? = some (.cells #[(.slice A0_0 l0_0.length c0_0), .int .i64 a0_1, (.slice A0_2 l0_2.length c0_2)] 25 (0, 0))) ∧ Aside0 (Below w.heap.size w w'))
  case atStart => exact ⟨(0), (0), (by first | rfl | (simp; done) | (simp [*]; done)), (by first | rfl | (simp; done) | (simp [*]; done)), H', ⟨Nat.le_refl _⟩, ⟨by (with_reducible repeat (first | refine blk_drewN ?_ _ | refine blk_drew ?_ | refine blk_alloc ?_ _)); exact BK108.out⟩, ⟨by repeat (first | (with_reducible first | exact HB.out | apply below_alloc | apply pw_below_drewN | apply below_drew1 | refine below_set ?_ GE108.out) | exact HB.out)⟩⟩
  case round =>
    clear H'
    try clear p2
    try clear hcz3_0
    try clear hcz3_1
    try clear hcz3_2
    try clear hfz3_0
    try clear hfz3_1
    try clear hfz3_2
    obtain ⟨x3_1, x9_1, rfl, rfl, HA, HK1, BK108, HB⟩ := hrel
    cases gk with
    | zero => exact absurd HA.out (by simp [ir_counts.l0])
    | succ k1 =>
      have H := HA.out
      clear HA
      simp only [ir_counts.l0] at H
      by_cases c4 : x9_1 < (l0_2.length : Int)
      · rw [if_pos c4] at H
        have c4b0 : decide (x9_1 < (l0_2.length : Int)) = true := decide_eq_true c4
        clear c4
        by_cases c5 : 0 ≤ x9_1
        · rw [if_pos c5] at H
          have c5b0 : decide (0 ≤ x9_1) = true := decide_eq_true c5
          clear c5
          by_cases c6 : x9_1 < (l0_2.length : Int)
          · rw [if_pos c6] at H
            have c6b0 : decide (x9_1 < (l0_2.length : Int)) = true := decide_eq_true c6
            clear c6
            obtain ⟨ji7, hji7⟩ : ∃ j_ : Int, (mn (wrap64 (x3_1 + (((rd_T36 l0_2 x9_1).f0).length : Int))) 8193) = j_ := ⟨_, rfl⟩
            replace H : (ir_counts.l0 k1 ji7 l0_2 (l0_2.length : Int) (wrap64 (x9_1 + 1)) l0_0 a0_1 l0_2) = some r := by first | (rw [hji7] at H; exact H) | (simp only [hji7] at H ⊢; exact H)
            have hji7_ : (if 8193 < (wrap64 (x3_1 + (((rd_T36 l0_2 x9_1).f0).length : Int))) then 8193 else (wrap64 (x3_1 + (((rd_T36 l0_2 x9_1).f0).length : Int)))) = ji7 := hji7
            have H' := Aside0.mk H
            clear H
            have p109 : 0 ≤ (x9_1 : Int) := of_decide_eq_true (by first | (with_reducible assumption) | assumption)
            have q109 : x9_1 < (l0_2.length : Int) := of_decide_eq_true (by first | (with_reducible assumption) | assumption)
            obtain ⟨ad109, A109_0, c109_0, e109, hx109_0, hx109_1, hx109_2, hx109_3, hx109_4, hl109_0, hi109_0⟩ := at_T36 HR0_2.out x9_1 p109 q109
            cases e109
            replace hx109_0 := (HB.out.cell (World.block_lt_of_cell? w _ hx109_0)).trans hx109_0
            replace hx109_1 := (HB.out.cell (World.block_lt_of_cell? w _ hx109_1)).trans hx109_1
            replace hx109_2 := (HB.out.cell (World.block_lt_of_cell? w _ hx109_2)).trans hx109_2
            replace hx109_3 := (HB.out.cell (World.block_lt_of_cell? w _ hx109_3)).trans hx109_3
            replace hx109_4 := (HB.out.cell (World.block_lt_of_cell? w _ hx109_4)).trans hx109_4
            have HR109_0 := Aside0.mk hi109_0
            have HC109_0 := Aside0.mk hl109_0
            clear hi109_0 hl109_0
            replace p109 := eq_true p109
            replace q109 := eq_true q109
            go_wp2_with (first | ((with_reducible refine gate_dst (N := 5) rfl ?_); refine box_event ?hg (N := 5) ?hd (cs := #[.slice none 0 0, .int .u8 0, .int .i64 0, .int .i64 0, .int .i64 0]) (t := 36) ?hr ?_; (case hd => rfl); (case hg => rfl); (case hr => first | (go_simp; done) | (go_simp; rfl)); intro gb110 hg w8 hbox hb; have n0_ := Aside0.mk (blk_below (g := gb108) (o := .cells #[.slice A0_0 l0_0.length c0_0, .int .i64 a0_1, .slice (some ad109) l0_2.length c0_2] 25 (0, 0)) (by (with_reducible repeat (first | refine blk_drewN ?_ _ | refine blk_drew ?_ | refine blk_alloc ?_ _)); exact BK108.out) hb); have n1_ := Aside0.mk (below_step (by repeat (first | (with_reducible first | exact HB.out | apply below_alloc | apply pw_below_drewN | apply below_drew1 | refine below_set ?_ GE108.out) | exact HB.out)) hb); have n2_ := Aside0.mk (hbox); have n3_ := Aside0.mk ((by rw [hg]; exact (below_size (by repeat (first | (with_reducible first | exact HB.out | apply below_alloc | apply pw_below_drewN | apply below_drew1 | refine below_set ?_ GE108.out) | exact HB.out))) : w.heap.size ≤ gb110)); have n4_ := Aside0.mk ((by rw [hg]; exact (below_size (by repeat (first | (with_reducible first | exact HB.out | apply below_alloc | apply pw_below_drewN | apply below_drew1 | refine below_set ?_ GE108.out) | exact HB.out))) : w.heap.size ≤ gb110)); have n5_ := Aside0.mk ((by rw [hg]; exact Nat.ne_of_lt (blk_lt (g := gb108) (o := .cells #[.slice A0_0 l0_0.length c0_0, .int .i64 a0_1, .slice (some ad109) l0_2.length c0_2] 25 (0, 0)) (by (with_reducible repeat (first | refine blk_drewN ?_ _ | refine blk_drew ?_ | refine blk_alloc ?_ _)); exact BK108.out)) : gb108 ≠ gb110)); have n6_ := Aside0.mk ((by rw [hg]; exact Nat.ne_of_gt (blk_lt (g := gb108) (o := .cells #[.slice A0_0 l0_0.length c0_0, .int .i64 a0_1, .slice (some ad109) l0_2.length c0_2] 25 (0, 0)) (by (with_reducible repeat (first | refine blk_drewN ?_ _ | refine blk_drew ?_ | refine blk_alloc ?_ _)); exact BK108.out)) : gb110 ≠ gb108)); clear BK108; clear HB; have BK108 := n0_; have HB := n1_; have BK110 := n2_; have GW110 := n3_; have GE110 := n4_; have NB108_110 := n5_; have NB110_108 := n6_; clear n0_ n1_ n2_ n3_ n4_ n5_ n6_; clear hb hbox hg; have hnb9 := NB110_108.out; have hnc9 := NB108_110.out; have hcz10_0 : w8.cell? ⟨gb110, 0, none⟩ = some (.slice none 0 0) := (blk_cell BK110.out 0).trans rfl; have hcz10_1 : w8.cell? ⟨gb110, 1, none⟩ = some (.int .u8 0) := (blk_cell BK110.out 1).trans rfl; have hcz10_2 : w8.cell? ⟨gb110, 2, none⟩ = some (.int .i64 0) := (blk_cell BK110.out 2).trans rfl; have hcz10_3 : w8.cell? ⟨gb110, 3, none⟩ = some (.int .i64 0) := (blk_cell BK110.out 3).trans rfl; have hcz10_4 : w8.cell? ⟨gb110, 4, none⟩ = some (.int .i64 0) := (blk_cell BK110.out 4).trans rfl; have hfz10_0 := blk_frozen BK110.out 0; have hfz10_1 := blk_frozen BK110.out 1; have hfz10_2 := blk_frozen BK110.out 2; have hfz10_3 := blk_frozen BK110.out 3; have hfz10_4 := blk_frozen BK110.out 4))
            go_roundg k1
            case measure => have := HK1.out; omega
            case rel => exact ⟨(ji7), (wrap64 (x9_1 + 1)), (by first | rfl | (simp; done) | (simp only [← hji7] <;> (first | rfl | simp)) | (simp [*]; done)), (by first | rfl | (simp; done) | (simp [*]; done)), H', ⟨by have := HK1.out; omega⟩, ⟨by (with_reducible repeat (first | refine blk_drewN ?_ _ | refine blk_drew ?_ | refine blk_alloc ?_ _)); refine blk_far ?_ NB108_110.out _; (with_reducible repeat (first | refine blk_drewN ?_ _ | refine blk_drew ?_ | refine blk_alloc ?_ _)); refine blk_far ?_ NB108_110.out _; (with_reducible repeat (first | refine blk_drewN ?_ _ | refine blk_drew ?_ | refine blk_alloc ?_ _)); refine blk_far ?_ NB108_110.out _; (with_reducible repeat (first | refine blk_drewN ?_ _ | refine blk_drew ?_ | refine blk_alloc ?_ _)); refine blk_far ?_ NB108_110.out _; (with_reducible repeat (first | refine blk_drewN ?_ _ | refine blk_drew ?_ | refine blk_alloc ?_ _)); refine blk_far ?_ NB108_110.out _; (with_reducible repeat (first | refine blk_drewN ?_ _ | refine blk_drew ?_ | refine blk_alloc ?_ _)); exact BK108.out⟩, ⟨by repeat (first | (with_reducible first | exact HB.out | apply below_alloc | apply pw_below_drewN | apply below_drew1 | refine below_set ?_ GE108.out | refine below_set ?_ GE110.out) | exact HB.out)⟩⟩
          · rw [if_neg c6] at H
            exact absurd H (by simp)
        · rw [if_neg c5] at H
          exact absurd H (by simp)
      · rw [if_neg c4] at H
        have c4b0 : decide (x9_1 < (l0_2.length : Int)) = false := decide_eq_false c4
        clear c4
        have HC11 := Aside0.mk H
        clear H
        have hcz12_0 : wr.cell? ⟨gb108, 0, none⟩ = some (.slice A0_0 l0_0.length c0_0) := (blk_cell BK108.out 0).trans rfl
        have hcz12_1 : wr.cell? ⟨gb108, 1, none⟩ = some (.int .i64 a0_1) := (blk_cell BK108.out 1).trans rfl
        have hcz12_2 : wr.cell? ⟨gb108, 2, none⟩ = some (.slice A0_2 l0_2.length c0_2) := (blk_cell BK108.out 2).trans rfl
        have hfz12_0 := blk_frozen BK108.out 0
        have hfz12_1 := blk_frozen BK108.out 1
        have hfz12_2 := blk_frozen BK108.out 2
        go_upto_if 20 with (fail)
        go_cut [20] (fun v20 wc => ∃ (kq : Nat) (x20_10 : Bool), v20 = .bool x20_10 ∧ Aside0 (ir_counts.j1 kq x20_10 l0_0 a0_1 l0_2 = some r) ∧ Aside0 (kq ≤ k1) ∧ Aside0 (wc.heap[gb108]? = some (.cells #[(.slice A0_0 l0_0.length c0_0), .int .i64 a0_1, (.slice A0_2 l0_2.length c0_2)] 25 (0, 0))) ∧ Aside0 (Below w.heap.size w wc))
        case first =>
          have H := HC11.out
          clear HC11
          by_cases c13 : (l0_0.length : Int) > 1024
          · rw [if_pos c13] at H
            have c13b0 : decide (1024 < (l0_0.length : Int)) = true := decide_eq_true c13
            have c13b1 : decide (1024 < l0_0.length) = true := decide_eq_true (by omega)
            clear c13
            (first | rw [c13b0] | (simp only [i64_w, i32_w]; rw [c13b0]) | skip)
            have H' := Aside0.mk H
            clear H
            go_wp2
            go_meet
            case rel => exact ⟨_, (decide ((l0_0.length : Int) > 1024)), (by first | rfl | (simp; done) | (simp [*]; done)), H', ⟨by have := HK1.out; first | omega | exact Nat.le_refl _⟩, ⟨by (with_reducible repeat (first | refine blk_drewN ?_ _ | refine blk_drew ?_ | refine blk_alloc ?_ _)); exact BK108.out⟩, ⟨by repeat (first | (with_reducible first | exact HB.out | apply below_alloc | apply pw_below_drewN | apply below_drew1 | refine below_set ?_ GE108.out) | exact HB.out)⟩⟩
          · rw [if_neg c13] at H
            have c13b0 : decide (1024 < (l0_0.length : Int)) = false := decide_eq_false c13
            have c13b1 : decide (1024 < l0_0.length) = false := decide_eq_false (by omega)
            clear c13
            (first | rw [c13b0] | (simp only [i64_w, i32_w]; rw [c13b0]) | skip)
            by_cases c14 : (l0_2.length : Int) > 4096
            · rw [if_pos c14] at H
              have c14b0 : decide (4096 < (l0_2.length : Int)) = true := decide_eq_true c14
              have c14b1 : decide (4096 < l0_2.length) = true := decide_eq_true (by omega)
              clear c14
              have H' := Aside0.mk H
              clear H
              have hcz15_0 : wr.cell? ⟨gb108, 0, none⟩ = some (.slice A0_0 l0_0.length c0_0) := (blk_cell BK108.out 0).trans rfl
              have hcz15_1 : wr.cell? ⟨gb108, 1, none⟩ = some (.int .i64 a0_1) := (blk_cell BK108.out 1).trans rfl
              have hcz15_2 : wr.cell? ⟨gb108, 2, none⟩ = some (.slice A0_2 l0_2.length c0_2) := (blk_cell BK108.out 2).trans rfl
              have hfz15_0 := blk_frozen BK108.out 0
              have hfz15_1 := blk_frozen BK108.out 1
              have hfz15_2 := blk_frozen BK108.out 2
              go_wp2
              go_meet
              case rel => exact ⟨_, (decide ((l0_2.length : Int) > 4096)), (by first | rfl | (simp; done) | (simp [*]; done)), H', ⟨by have := HK1.out; first | omega | exact Nat.le_refl _⟩, ⟨by (with_reducible repeat (first | refine blk_drewN ?_ _ | refine blk_drew ?_ | refine blk_alloc ?_ _)); exact BK108.out⟩, ⟨by repeat (first | (with_reducible first | exact HB.out | apply below_alloc | apply pw_below_drewN | apply below_drew1 | refine below_set ?_ GE108.out) | exact HB.out)⟩⟩
            · rw [if_neg c14] at H
              have c14b0 : decide (4096 < (l0_2.length : Int)) = false := decide_eq_false c14
              have c14b1 : decide (4096 < l0_2.length) = false := decide_eq_false (by omega)
              clear c14
              by_cases c16 : a0_1 > 8192
              · rw [if_pos c16] at H
                have c16b0 : decide (8192 < a0_1) = true := decide_eq_true c16
                clear c16
                have H' := Aside0.mk H
                clear H
                have hcz17_0 : wr.cell? ⟨gb108, 0, none⟩ = some (.slice A0_0 l0_0.length c0_0) := (blk_cell BK108.out 0).trans rfl
                have hcz17_1 : wr.cell? ⟨gb108, 1, none⟩ = some (.int .i64 a0_1) := (blk_cell BK108.out 1).trans rfl
                have hcz17_2 : wr.cell? ⟨gb108, 2, none⟩ = some (.slice A0_2 l0_2.length c0_2) := (blk_cell BK108.out 2).trans rfl
                have hfz17_0 := blk_frozen BK108.out 0
                have hfz17_1 := blk_frozen BK108.out 1
                have hfz17_2 := blk_frozen BK108.out 2
                go_wp2
                go_meet
                case rel => exact ⟨_, (decide (a0_1 > 8192)), (by first | rfl | (simp; done) | (simp [*]; done)), H', ⟨by have := HK1.out; first | omega | exact Nat.le_refl _⟩, ⟨by (with_reducible repeat (first | refine blk_drewN ?_ _ | refine blk_drew ?_ | refine blk_alloc ?_ _)); exact BK108.out⟩, ⟨by repeat (first | (with_reducible first | exact HB.out | apply below_alloc | apply pw_below_drewN | apply below_drew1 | refine below_set ?_ GE108.out) | exact HB.out)⟩⟩
              · rw [if_neg c16] at H
                have c16b0 : decide (8192 < a0_1) = false := decide_eq_false c16
                clear c16
                have H' := Aside0.mk H
                clear H
                have hcz18_0 : wr.cell? ⟨gb108, 0, none⟩ = some (.slice A0_0 l0_0.length c0_0) := (blk_cell BK108.out 0).trans rfl
                have hcz18_1 : wr.cell? ⟨gb108, 1, none⟩ = some (.int .i64 a0_1) := (blk_cell BK108.out 1).trans rfl
                have hcz18_2 : wr.cell? ⟨gb108, 2, none⟩ = some (.slice A0_2 l0_2.length c0_2) := (blk_cell BK108.out 2).trans rfl
                have hfz18_0 := blk_frozen BK108.out 0
                have hfz18_1 := blk_frozen BK108.out 1
                have hfz18_2 := blk_frozen BK108.out 2
                go_wp2
                go_meet
                case rel => exact ⟨_, (decide (x3_1 > 8192)), (by first | rfl | (simp; done) | (simp [*]; done)), H', ⟨by have := HK1.out; first | omega | exact Nat.le_refl _⟩, ⟨by (with_reducible repeat (first | refine blk_drewN ?_ _ | refine blk_drew ?_ | refine blk_alloc ?_ _)); exact BK108.out⟩, ⟨by repeat (first | (with_reducible first | exact HB.out | apply below_alloc | apply pw_below_drewN | apply below_drew1 | refine below_set ?_ GE108.out) | exact HB.out)⟩⟩
        case rest =>
          clear HC11
          try clear c1
          try clear p1
          try clear q1
          try clear hx1
          try clear p2
          try clear c4
          try clear c4b0
          try clear c5
          try clear c5b0
          try clear c6
          try clear c6b0
          try clear p6
          try clear c9
          try clear c10
          try clear p10
          try clear q10
          try clear hx10
          try clear c13
          try clear c13b0
          try clear c13b1
          try clear c14
          try clear c14b0
          try clear c14b1
          try clear c16
          try clear c16b0
          try clear hcz10_0
          try clear hcz10_1
          try clear hcz10_2
          try clear hcz10_3
          try clear hcz10_4
          try clear hcz12_0
          try clear hcz12_1
          try clear hcz12_2
          try clear hcz15_0
          try clear hcz15_1
          try clear hcz15_2
          try clear hcz17_0
          try clear hcz17_1
          try clear hcz17_2
          try clear hcz18_0
          try clear hcz18_1
          try clear hcz18_2
          try clear hcz3_0
          try clear hcz3_1
          try clear hcz3_2
          try clear hfz10_0
          try clear hfz10_1
          try clear hfz10_2
          try clear hfz10_3
          try clear hfz10_4
          try clear hfz12_0
          try clear hfz12_1
          try clear hfz12_2
          try clear hfz15_0
          try clear hfz15_1
          try clear hfz15_2
          try clear hfz17_0
          try clear hfz17_1
          try clear hfz17_2
          try clear hfz18_0
          try clear hfz18_1
          try clear hfz18_2
          try clear hfz3_0
          try clear hfz3_1
          try clear hfz3_2
          try clear hx109_0
          try clear hx109_1
          try clear hx109_2
          try clear hx109_3
          try clear hx109_4
          try clear p109
          try clear p2
          try clear q109
          obtain ⟨kq, x20_10, rfl, HA, HJ10, BK108, HB⟩ := hcut
          cases kq with
          | zero => exact absurd HA.out (by simp [ir_counts.j1])
          | succ kj10 =>
            have H := HA.out
            clear HA
            simp only [ir_counts.j1] at H
            by_cases c19 : x20_10 = true
            · subst c19
              have H1 : (some 3) = some r := by rw [if_pos rfl] at H; exact H
              clear H
              have H := H1
              clear H1
              obtain rfl := Option.some.inj H
              go_wp2
              go_ret
              exact ⟨by first | rfl | (simp [errW_none, errW_some] <;> rfl) | (simp [*, errW_none, errW_some] <;> rfl), by repeat (first | (with_reducible first | exact HB.out | apply below_alloc | apply pw_below_drewN | apply below_drew1 | refine below_set ?_ GE108.out) | exact HB.out)⟩
            · replace c19 := Bool.eq_false_iff.mpr c19
              subst c19
              have H1 : (if (l0_2.length : Int) = 0 then (some 14) else (if a0_1 < 0 then (some 14) else (some 0))) = some r := by rw [if_neg (show ¬ (false = true) by decide)] at H; exact H
              clear H
              have H := H1
              clear H1
              by_cases c20 : (l0_2.length : Int) = 0
              · rw [if_pos c20] at H
                have c20b0 : ((l0_2.length : Int) == 0) = true := beq_iff_eq.mpr c20
                have c20b1 : ((l0_2.length : Int) != 0) = false := bne_eq_false_iff_eq.mpr c20
                clear c20
                obtain rfl := Option.some.inj H
                have hcz21_0 : wc.cell? ⟨gb108, 0, none⟩ = some (.slice A0_0 l0_0.length c0_0) := (blk_cell BK108.out 0).trans rfl
                have hcz21_1 : wc.cell? ⟨gb108, 1, none⟩ = some (.int .i64 a0_1) := (blk_cell BK108.out 1).trans rfl
                have hcz21_2 : wc.cell? ⟨gb108, 2, none⟩ = some (.slice A0_2 l0_2.length c0_2) := (blk_cell BK108.out 2).trans rfl
                have hfz21_0 := blk_frozen BK108.out 0
                have hfz21_1 := blk_frozen BK108.out 1
                have hfz21_2 := blk_frozen BK108.out 2
                go_wp2
                go_ret
                exact ⟨by first | rfl | (simp [errW_none, errW_some] <;> rfl) | (simp [*, errW_none, errW_some] <;> rfl), by repeat (first | (with_reducible first | exact HB.out | apply below_alloc | apply pw_below_drewN | apply below_drew1 | refine below_set ?_ GE108.out) | exact HB.out)⟩
              · rw [if_neg c20] at H
                have c20b0 : ((l0_2.length : Int) == 0) = false := beq_eq_false_iff_ne.mpr c20
                have c20b1 : ((l0_2.length : Int) != 0) = true := bne_iff_ne.mpr c20
                have c20b2 : ¬ (l0_2 = []) := fun h_ => c20 (by rw [h_]; rfl)
                by_cases c22 : a0_1 < 0
                · rw [if_pos c22] at H
                  have c22b0 : decide (a0_1 < 0) = true := decide_eq_true c22
                  clear c22
                  obtain rfl := Option.some.inj H
                  have hcz23_0 : wc.cell? ⟨gb108, 0, none⟩ = some (.slice A0_0 l0_0.length c0_0) := (blk_cell BK108.out 0).trans rfl
                  have hcz23_1 : wc.cell? ⟨gb108, 1, none⟩ = some (.int .i64 a0_1) := (blk_cell BK108.out 1).trans rfl
                  have hcz23_2 : wc.cell? ⟨gb108, 2, none⟩ = some (.slice A0_2 l0_2.length c0_2) := (blk_cell BK108.out 2).trans rfl
                  have hfz23_0 := blk_frozen BK108.out 0
                  have hfz23_1 := blk_frozen BK108.out 1
                  have hfz23_2 := blk_frozen BK108.out 2
                  go_wp2
                  go_ret
                  exact ⟨by first | rfl | (simp [errW_none, errW_some] <;> rfl) | (simp [*, errW_none, errW_some] <;> rfl), by repeat (first | (with_reducible first | exact HB.out | apply below_alloc | apply pw_below_drewN | apply below_drew1 | refine below_set ?_ GE108.out) | exact HB.out)⟩
                · rw [if_neg c22] at H
                  have c22b0 : decide (a0_1 < 0) = false := decide_eq_false c22
                  clear c22
                  obtain rfl := Option.some.inj H
                  have hcz24_0 : wc.cell? ⟨gb108, 0, none⟩ = some (.slice A0_0 l0_0.length c0_0) := (blk_cell BK108.out 0).trans rfl
                  have hcz24_1 : wc.cell? ⟨gb108, 1, none⟩ = some (.int .i64 a0_1) := (blk_cell BK108.out 1).trans rfl
                  have hcz24_2 : wc.cell? ⟨gb108, 2, none⟩ = some (.slice A0_2 l0_2.length c0_2) := (blk_cell BK108.out 2).trans rfl
                  have hfz24_0 := blk_frozen BK108.out 0
                  have hfz24_1 := blk_frozen BK108.out 1
                  have hfz24_2 := blk_frozen BK108.out 2
                  go_wp2
                  go_ret
                  exact ⟨by first | rfl | (simp [errW_none, errW_some] <;> rfl) | (simp [*, errW_none, errW_some] <;> rfl), by repeat (first | (with_reducible first | exact HB.out | apply below_alloc | apply pw_below_drewN | apply below_drew1 | refine below_set ?_ GE108.out) | exact HB.out)⟩
end Go.Proofs.Ytjmeignhhheckaa.Q
namespace Go.Proofs.Ytjmeignhhheckaa.H
open Go.RowKit Go.Maps Go.Proofs.YtjmeignhhheckaaW.PrintWords Go.Proofs.YtjmeignhhheckaaW.PrintLast Go.Proofs.YtjmeignhhheckaaW.PrintMore Go.Proofs.Ytjmeignhhheckaa.Q
set_option maxRecDepth 100000
def countsS (xs : List Bool) (sites : Int) (bs : List S36) : Int :=
  if 1024 < xs.length ∨ 4096 < bs.length ∨ 8192 < sites ∨ 8192 < insTotal bs then 3 else if bs.length = 0 ∨ sites < 0 then 14 else 0
def smallG (bs : List S36) : Prop := bs.length ≤ 140737488351232 ∧ ∀ b ∈ bs, b.f0.length ≤ 140737488351232
instance (bs : List S36) : Decidable (smallG bs) := by unfold smallG; exact inferInstance
theorem counts_j1 (k : Nat) (x : Bool) (xs : List Bool) (sites : Int) (bs : List S36) : ir_counts.j1 (k + 1) x xs sites bs = some (if x = true then 3 else if bs.length = 0 ∨ sites < 0 then 14 else 0) := by
  simp only [ir_counts.j1]
  cases x
  · by_cases h0 : bs.length = 0
    · simp [h0]
    · by_cases h1 : sites < 0
      · simp [h0, h1]
      · simp [h0, h1]
  · simp
theorem counts_l0 (xs : List Bool) (sites : Int) (bs : List S36) (hb : smallG bs) : ∀ (d k n : Nat) (x : Int), d + n = bs.length → d + 2 ≤ k → 0 ≤ x → x ≤ 8193 → (x ≤ 8192 → x + insTotal (bs.drop n) = insTotal bs) → (8192 < x → 8192 < insTotal bs) →
    ir_counts.l0 k x bs (bs.length : Int) n xs sites bs = some (countsS xs sites bs) := by
  intro d
  induction d with
  | zero =>
    intro k n x hd hk h0 h1 hx hx2
    obtain ⟨k, rfl⟩ : ∃ m, k = m + 2 := ⟨k - 2, by omega⟩
    have hn : n = bs.length := by omega
    subst hn
    simp only [ir_counts.l0]
    rw [if_neg (by omega)]
    simp only [counts_j1]
    rw [List.drop_length] at hx
    have ht : insTotal ([] : List S36) = 0 := rfl
    rw [ht] at hx
    unfold countsS
    by_cases a : (xs.length : Int) > 1024
    · rw [if_pos a, decide_eq_true a, if_pos rfl, if_pos (by omega)]
    · rw [if_neg a]
      by_cases b : (bs.length : Int) > 4096
      · rw [if_pos b, decide_eq_true b, if_pos rfl, if_pos (by omega)]
      · rw [if_neg b]
        by_cases c : sites > 8192
        · rw [if_pos c, decide_eq_true c, if_pos rfl, if_pos (by omega)]
        · rw [if_neg c]
          by_cases e : x > 8192
          · rw [decide_eq_true e, if_pos rfl, if_pos (by have := hx2 e; omega)]
          · rw [decide_eq_false e, if_neg (by decide), if_neg (show ¬ (1024 < xs.length ∨ 4096 < bs.length ∨ 8192 < sites ∨ 8192 < insTotal bs) from by have := hx (by omega); omega)]
  | succ d ih =>
    intro k n x hd hk h0 h1 hx hx2
    obtain ⟨k, rfl⟩ : ∃ m, k = m + 1 := ⟨k - 1, by omega⟩
    simp only [ir_counts.l0]
    rw [if_pos (by omega), if_pos (by omega), if_pos (by omega)]
    have hlen : (rd_T36 bs n).f0.length ≤ 140737488351232 := hb.2 _ (getD_mem (by omega))
    have hdr := insTotal_drop bs n (by omega)
    have hle : insTotal (bs.drop n) ≤ insTotal bs := by
      have : ∀ (m : Nat) (l : List S36), insTotal (l.drop m) ≤ insTotal l := by
        intro m
        induction m with
        | zero => intro l; simp
        | succ m ihm =>
          intro l
          cases l with
          | nil => simp
          | cons y l => have := ihm l; simp only [List.drop_succ_cons]; simp only [insTotal, List.map_cons, List.sum_cons] at this ⊢; omega
      exact this n bs
    rw [show wrap64 ((n : Int) + 1) = ((n + 1 : Nat) : Int) from by have := hb.1; unfold wrap64; omega]
    rw [show wrap64 (x + ((rd_T36 bs n).f0.length : Int)) = x + ((rd_T36 bs n).f0.length : Int) from by unfold wrap64; omega]
    refine ih k (n + 1) _ (by omega) (by omega) ?_ ?_ ?_ ?_
    · unfold mn; split <;> omega
    · unfold mn; split <;> omega
    · intro h
      unfold mn at h ⊢
      split at h <;> simp_all <;> omega
    · intro h
      unfold mn at h
      split at h
      · by_cases hx8 : x ≤ 8192
        · have := hx hx8
          omega
        · exact hx2 (by omega)
      · by_cases hx8 : x ≤ 8192
        · have := hx hx8
          omega
        · exact hx2 (by omega)
theorem counts_f (xs : List Bool) (sites : Int) (bs : List S36) (hb : smallG bs) : ir_counts.f (bs.length + 2) xs sites bs = some (countsS xs sites bs) := by
  unfold ir_counts.f
  exact counts_l0 xs sites bs hb bs.length _ 0 0 (by omega) (by omega) (by omega) (by omega) (by simp) (by omega)
def goS (words : Int) : List S25 → Nat → Int × Int × Int × Int
  | [], _ => (0, 0, 0, 0)
  | g :: r, t =>
    if countsS g.f0 g.f1 g.f2 ≠ 0 then (t, 0, 0, countsS g.f0 g.f1 g.f2)
    else if (faultS g.f0 g.f1 words g.f2).2.2 then (t, (faultS g.f0 g.f1 words g.f2).1, (faultS g.f0 g.f1 words g.f2).2.1, 14)
    else goS words r (t + 1)
/-- ir.Check -/
def checkS (words : Int) (ts : List S25) : Int × Int × Int × Int :=
  if 65536 < words ∨ 4 < ts.length then (0, 0, 0, 3) else if words < 0 then (0, 0, 0, 14) else goS words ts 0
structure CFr (w : World) (words : Int) (ad : Option Addr) (n c : Nat) (wr : World) : Prop where
  b : Below w.heap.size w wr
  c0 : wr.heap[w.heap.size]? = some (.cells #[.int .i64 words, .slice ad n c] 54 (0, 0))
  r : wr.heap[w.heap.size + 1]? = some (.cells #[.int .i64 0, .int .i64 0] 41 (0, 0))
theorem CFr.below {w : World} {words : Int} {ad : Option Addr} {n c : Nat} {wr wr' : World} (h : CFr w words ad n c wr) (hb : Below wr.heap.size wr wr') : CFr w words ad n c wr' := ⟨below_step h.b hb, blk_below h.c0 hb, blk_below h.r hb⟩
theorem CFr.alloc {w : World} {words : Int} {ad : Option Addr} {n c : Nat} {wr : World} (h : CFr w words ad n c wr) (o : Obj) : CFr w words ad n c (wr.alloc o) := h.below ((Below.refl _ wr).alloc (Nat.le_refl _) o)
theorem CFr.grown {w : World} {words : Int} {ad : Option Addr} {n c b : Nat} {wr wr' : World} (h : CFr w words ad n c wr) (hg : wr.grownBy wr' (some b)) (hb : wr.heap.size ≤ b) : CFr w words ad n c wr' :=
  ⟨h.b.grown hg h.b.size (fun k hk => by cases hk; exact Nat.le_trans h.b.size hb), blk_grown h.c0 hg (fun e => by have := blk_lt h.c0; have := Option.some.inj e; omega), blk_grown h.r hg (fun e => by have := blk_lt h.r; have := Option.some.inj e; omega)⟩
theorem CFr.grown' {w : World} {words : Int} {ad : Option Addr} {n c b : Nat} {wr wr' : World} (h : CFr w words ad n c wr) (hg : wr.grownBy wr' (some b)) (hb : w.heap.size + 1 < b) : CFr w words ad n c wr' :=
  ⟨h.b.grown hg h.b.size (fun k hk => by cases hk; omega), blk_grown h.c0 hg (fun e => by have := Option.some.inj e; omega), blk_grown h.r hg (fun e => by have := Option.some.inj e; omega)⟩
set_option maxHeartbeats 4000000 in
theorem check_any (A : Option Addr) (c : Nat) (words : Int) (ts : List S25) (w : World) (hA : Kd.C k25 w A ts.length ts) (hc : ts.length ≤ c) (hb : ∀ g ∈ ts, smallG g.f2) :
    Calls Try.prog 66 #[.agg #[.int .i64 words, .slice A ts.length c]] w fun e w' => e = .returned (.tuple #[.int .i64 (checkS words ts).1, .agg #[.int .i64 (checkS words ts).2.1, .int .i64 (checkS words ts).2.2.1], .int .i64 (checkS words ts).2.2.2]) ∧ Below w.heap.size w w' := by
  have HA := Lib.hid hA
  have HSB := Lib.hid hb
  have hlm := hA.2.1
  clear hA hb
  have hu54 := Try.underlying54
  have hu25 := Try.underlying25
  have hu148 := Try.underlying148
  have hu41 := Try.underlying41
  have HF := Lib.hid (show CFr w words A ts.length c ((w.alloc (.cells #[.int .i64 words, .slice A ts.length c] 54)).alloc (.cells #[.int .i64 0, .int .i64 0] 41)) from
    ⟨below_alloc (below_alloc (Below.refl _ _) _) _, blk_alloc (blk_new _ _) _, by have := blk_new (w.alloc (.cells #[.int .i64 words, .slice A ts.length c] 54)) (.cells #[.int .i64 0, .int .i64 0] 41); rwa [show (w.alloc (.cells #[.int .i64 words, .slice A ts.length c] 54)).heap.size = w.heap.size + 1 from by simp] at this⟩)
  by_cases h1 : 65536 < words
  · have HS := Lib.hid (show checkS words ts = (0, 0, 0, 3) from by unfold checkS; rw [if_pos (Or.inl h1)])
    go_enter Try.func66, Try.ntmps66
    go_wp2
    refine bodyPost_ret (v := .tuple #[.int .i64 0, .agg #[.int .i64 0, .int .i64 0], .int .i64 3]) (by simp [results, Try.results66, go_sem]) rfl ⟨?_, HF.out.b⟩
    rw [HS.out]
  by_cases h2 : 4 < ts.length
  · have HS := Lib.hid (show checkS words ts = (0, 0, 0, 3) from by unfold checkS; rw [if_pos (Or.inr h2)])
    go_enter Try.func66, Try.ntmps66
    go_wp2
    refine bodyPost_ret (v := .tuple #[.int .i64 0, .agg #[.int .i64 0, .int .i64 0], .int .i64 3]) (by simp [results, Try.results66, go_sem]) rfl ⟨?_, HF.out.b⟩
    rw [HS.out]
  by_cases h3 : words < 0
  · have HS := Lib.hid (show checkS words ts = (0, 0, 0, 14) from by unfold checkS; rw [if_neg (by omega), if_pos h3])
    go_enter Try.func66, Try.ntmps66
    go_wp2
    refine bodyPost_ret (v := .tuple #[.int .i64 0, .agg #[.int .i64 0, .int .i64 0], .int .i64 14]) (by simp [results, Try.results66, go_sem]) rfl ⟨?_, HF.out.b⟩
    rw [HS.out]
  have HS := Lib.hid (show checkS words ts = goS words ts 0 from by unfold checkS; rw [if_neg (by omega), if_neg h3])
  have hmm := Lib.hid (@run_makeMap Try.prog)
  go_enter Try.func66, Try.ntmps66
  go_wp2
  go_loopw [28] (fun j wr => ∃ n : Nat, n ≤ ts.length ∧ j = .int .i64 n ∧ CFr w words A ts.length c wr ∧ goS words (ts.drop n) n = goS words ts 0) (fun j _ => ts.length - (intOf j).toNat)
  case atStart => exact ⟨0, Nat.zero_le _, rfl, HF.out, rfl⟩
  case round =>
    obtain ⟨n, hnl, rfl, hF, hgo⟩ := hrel
    clear HF
    have HF := Lib.hid hF
    have HGO := Lib.hid hgo
    clear hF hgo
    by_cases hlt : n < ts.length
    · obtain ⟨ad, A0, c0, A2, c2, hA, d0, d1, d2, hc0, hC0, hc2, hC2⟩ := at_T25 HA.out (n : Int) (by omega) (by omega)
      subst hA
      simp only [Int.toNat_natCast] at d0 d1 d2
      have d0 := pw_cell_below HF.out.b d0
      have d1 := pw_cell_below HF.out.b d1
      have d2 := pw_cell_below HF.out.b d2
      have HDR := Lib.hid (show ts.drop n = rd_T25 ts n :: ts.drop (n + 1) from drop_at ts n z25 hlt)
      have HSG := Lib.hid (HSB.out (rd_T25 ts n) (getD_mem (by omega)))
      generalize rd_T25 ts n = g at *
      obtain ⟨xs, sites, bs⟩ := g
      dsimp only at d0 d1 d2 hc0 hC0 hc2 hC2
      have HC0 := Lib.hid hC0
      have HC2 := Lib.hid hC2
      have HL0 := Lib.hid hc0
      have HL2 := Lib.hid hc2
      have hm0 := hC0.2.1
      have hm2 := hC2.2.1
      clear hC0 hC2 hc0 hc2
      have HG := Lib.hid (show goS words (⟨xs, sites, bs⟩ :: ts.drop (n + 1)) n = goS words ts 0 from by rw [← HGO.out, HDR.out])
      have HF2 := Lib.hid (HF.out.alloc (.cells #[.slice A0 xs.length c0, .int .i64 sites, .slice A2 bs.length c2] 25))
      have HX2 := Lib.hid (blk_new wr (.cells #[.slice A0 xs.length c0, .int .i64 sites, .slice A2 bs.length c2] 25))
      go_wp2_with fail
      clear d0 d1 d2
      refine (ir_counts.calls (bs.length + 2) A0 c0 xs sites A2 c2 bs _ _ (Kd.C_below HC0.out HF2.out.b) HL0.out (Kd.C_below HC2.out HF2.out.b) HL2.out (counts_f xs sites bs HSG.out)).mono ?_
      rintro e w3 ⟨rfl, hb3⟩
      have HF3 := Lib.hid (HF2.out.below hb3)
      have HX3 := Lib.hid (blk_below HX2.out hb3)
      clear hb3 HF2 HX2
      have hr0 : w3.cell? ⟨w.heap.size + 1, 0, none⟩ = some (.int .i64 0) := (blk_cell HF3.out.r 0).trans rfl
      have hr1 : w3.cell? ⟨w.heap.size + 1, 1, none⟩ = some (.int .i64 0) := (blk_cell HF3.out.r 1).trans rfl
      have hf0 := blk_frozen HF3.out.r 0
      have hf1 := blk_frozen HF3.out.r 1
      by_cases hcz : countsS xs sites bs = 0
      · have HCZ := Lib.hid hcz
        have hcb : (countsS xs sites bs != 0) = false := by simpa using hcz
        have hx0 : w3.cell? ⟨wr.heap.size, 0, none⟩ = some (.slice A0 xs.length c0) := (blk_cell HX3.out 0).trans rfl
        have hx1 : w3.cell? ⟨wr.heap.size, 1, none⟩ = some (.int .i64 sites) := (blk_cell HX3.out 1).trans rfl
        have hx2 : w3.cell? ⟨wr.heap.size, 2, none⟩ = some (.slice A2 bs.length c2) := (blk_cell HX3.out 2).trans rfl
        have hc00 : w3.cell? ⟨w.heap.size, 0, none⟩ = some (.int .i64 words) := (blk_cell HF3.out.c0 0).trans rfl
        have hmm2 := hmm.out
        have HCN := Lib.hid (show xs.length ≤ 1024 ∧ bs.length ≤ 4096 ∧ sites ≤ 8192 ∧ insTotal bs ≤ 8192 ∧ 0 < bs.length from by
          unfold countsS at hcz
          by_cases h : 1024 < xs.length ∨ 4096 < bs.length ∨ 8192 < sites ∨ 8192 < insTotal bs
          · rw [if_pos h] at hcz; cases hcz
          · rw [if_neg h] at hcz
            by_cases h2 : bs.length = 0 ∨ sites < 0
            · rw [if_pos h2] at hcz; cases hcz
            · omega)
        clear hcz
        have HF5 := Lib.hid ((HF3.out.alloc (.map #[] 0)).alloc (.cells #[.slice A0 xs.length c0, .int .i64 sites, .slice A2 bs.length c2, .int .i64 words, .map (some w3.heap.size)] 148))
        have HFI := Lib.hid (show FIn w (w3.heap.size + 1) w3.heap.size c0 c2 A0 A2 xs bs sites words ((w3.alloc (.map #[] 0)).alloc (.cells #[.slice A0 xs.length c0, .int .i64 sites, .slice A2 bs.length c2, .int .i64 words, .map (some w3.heap.size)] 148)) from
          { h0 := HF5.out.b, hb0 := HF3.out.b.size, hA := HC0.out, hnc := HL0.out, hB := HC2.out, hbc := HL2.out, hM := (SMap.made w3).alloc _, hst := HCN.out.2.2.1, hin := HCN.out.2.2.2.1, hne := HCN.out.2.2.2.2, hnb := by have := HCN.out.2.1; omega
            hK := by
              have := blk_new (w3.alloc (.map #[] 0)) (.cells #[.slice A0 xs.length c0, .int .i64 sites, .slice A2 bs.length c2, .int .i64 words, .map (some w3.heap.size)] 148)
              rwa [show (w3.alloc (.map #[] 0)).heap.size = w3.heap.size + 1 from by simp] at this })
        go_wp2_with fail
        refine (fault_calls w _ _ _ _ _ _ xs bs sites words _ HFI.out).mono ?_
        rintro e w5 ⟨rfl, hg5⟩
        have HF6 := Lib.hid (HF5.out.grown' hg5 (blk_lt HF3.out.r))
        clear hg5 hr0 hr1 hf0 hf1 hx0 hx1 hx2 hc00 hmm2 HF5 HFI HF3 HX3 HF
        cases hq : (faultS xs sites words bs).2.2 with
        | false =>
          have HN := Lib.hid (show goS words (ts.drop (n + 1)) (n + 1) = goS words ts 0 from by
            rw [← HG.out]
            conv => rhs; unfold goS
            rw [if_neg (by rw [HCZ.out]; decide), if_neg (by rw [hq]; decide)])
          go_wp2
          go_roundw
          case rel => exact ⟨n + 1, by omega, by go_num, HF6.out.alloc _, HN.out⟩
          case measure => simp [intOf]; omega
        | true =>
          have HS2 := Lib.hid (show checkS words ts = ((n : Int), ((faultS xs sites words bs).1 : Int), ((faultS xs sites words bs).2.1 : Int), 14) from by
            rw [HS.out, ← HG.out]
            unfold goS
            rw [if_neg (by rw [HCZ.out]; decide), if_pos hq])
          generalize hf1 : ((faultS xs sites words bs).1 : Int) = f1 at *
          generalize hf2 : ((faultS xs sites words bs).2.1 : Int) = f2 at *
          clear hf1 hf2
          have HF7 := Lib.hid (HF6.out.alloc (.cells #[.int .i64 f1, .int .i64 f2] 41))
          have hr0 : (w5.alloc (.cells #[.int .i64 f1, .int .i64 f2] 41)).cell? ⟨w.heap.size + 1, 0, none⟩ = some (.int .i64 0) := (blk_cell HF7.out.r 0).trans rfl
          have hr1 : (w5.alloc (.cells #[.int .i64 f1, .int .i64 f2] 41)).cell? ⟨w.heap.size + 1, 1, none⟩ = some (.int .i64 0) := (blk_cell HF7.out.r 1).trans rfl
          have hf0 := blk_frozen HF7.out.r 0
          have hf1 := blk_frozen HF7.out.r 1
          have HR8 := Lib.hid (blk_drew (spot_ret (n := f1) (k := f2) HF7.out.r))
          have HG8 := Lib.hid (below_drew (below_set (below_set HF7.out.b (Nat.le_succ _) (j := 0) (v := .int .i64 f1)) (Nat.le_succ _) (j := 1) (v := .int .i64 f2)))
          go_wp2
          go_region
          go_wp2
          generalize (((w5.alloc (.cells #[.int .i64 f1, .int .i64 f2] 41)).setCell ⟨w.heap.size + 1, 0, none⟩ (.int .i64 f1)).setCell ⟨w.heap.size + 1, 1, none⟩ (.int .i64 f2)).drew = w7 at *
          have hr7 : w7.cell? ⟨w.heap.size + 1, 0, none⟩ = some (.int .i64 f1) := (blk_cell HR8.out 0).trans rfl
          have hr8 : w7.cell? ⟨w.heap.size + 1, 1, none⟩ = some (.int .i64 f2) := (blk_cell HR8.out 1).trans rfl
          refine bodyPost_ret (v := .tuple #[.int .i64 n, .agg #[.int .i64 f1, .int .i64 f2], .int .i64 14]) (by simp [results, Try.results66, go_sem, hr7, hr8]) rfl ⟨?_, HG8.out⟩
          rw [HS2.out]
      · have hcb : (countsS xs sites bs != 0) = true := by simpa using hcz
        have HS2 := Lib.hid (show checkS words ts = ((n : Int), 0, 0, countsS xs sites bs) from by
          rw [HS.out, ← HG.out]
          unfold goS
          rw [if_pos hcz])
        clear hcz
        have HR7 := Lib.hid (spot_ret (n := 0) (k := 0) HF3.out.r)
        have HG7 := Lib.hid (below_set (below_set HF3.out.b (Nat.le_succ _) (j := 0) (v := .int .i64 0)) (Nat.le_succ _) (j := 1) (v := .int .i64 0))
        go_wp2
        generalize (w3.setCell ⟨w.heap.size + 1, 0, none⟩ (.int .i64 0)).setCell ⟨w.heap.size + 1, 1, none⟩ (.int .i64 0) = w7 at *
        have hr7 : w7.cell? ⟨w.heap.size + 1, 0, none⟩ = some (.int .i64 0) := (blk_cell HR7.out 0).trans rfl
        have hr8 : w7.cell? ⟨w.heap.size + 1, 1, none⟩ = some (.int .i64 0) := (blk_cell HR7.out 1).trans rfl
        refine bodyPost_ret (v := .tuple #[.int .i64 n, .agg #[.int .i64 0, .int .i64 0], .int .i64 (countsS xs sites bs)]) (by simp [results, Try.results66, go_sem, hr7, hr8]) rfl ⟨?_, HG7.out⟩
        rw [HS2.out]
    · have hne : n = ts.length := by omega
      subst hne
      have HS2 := Lib.hid (show checkS words ts = (0, 0, 0, 0) from by rw [HS.out, ← HGO.out, List.drop_length]; rfl)
      have hr0 : wr.cell? ⟨w.heap.size + 1, 0, none⟩ = some (.int .i64 0) := (blk_cell HF.out.r 0).trans rfl
      have hr1 : wr.cell? ⟨w.heap.size + 1, 1, none⟩ = some (.int .i64 0) := (blk_cell HF.out.r 1).trans rfl
      have hf0 := blk_frozen HF.out.r 0
      have hf1 := blk_frozen HF.out.r 1
      have HR7 := Lib.hid (spot_ret (n := 0) (k := 0) HF.out.r)
      have HG7 := Lib.hid (below_set (below_set HF.out.b (Nat.le_succ _) (j := 0) (v := .int .i64 0)) (Nat.le_succ _) (j := 1) (v := .int .i64 0))
      go_wp2
      generalize (wr.setCell ⟨w.heap.size + 1, 0, none⟩ (.int .i64 0)).setCell ⟨w.heap.size + 1, 1, none⟩ (.int .i64 0) = w7 at *
      have hr7 : w7.cell? ⟨w.heap.size + 1, 0, none⟩ = some (.int .i64 0) := (blk_cell HR7.out 0).trans rfl
      have hr8 : w7.cell? ⟨w.heap.size + 1, 1, none⟩ = some (.int .i64 0) := (blk_cell HR7.out 1).trans rfl
      refine bodyPost_ret (v := .tuple #[.int .i64 0, .agg #[.int .i64 0, .int .i64 0], .int .i64 0]) (by simp [results, Try.results66, go_sem, hr7, hr8]) rfl ⟨?_, HG7.out⟩
      rw [HS2.out]
end Go.Proofs.Ytjmeignhhheckaa.H
namespace Go.Proofs.Ytjmeignhhheckaa.Q
open Go.RowKit Go.Proofs.YtjmeignhhheckaaW.PrintWords Go.Proofs.YtjmeignhhheckaaW.PrintLast
/-- ir.Check, where no block is too long. -/
def ir_Check.f (a0 : Int) (l0 : List S25) : Option (Int × Int × Int × Int) := if (∀ g ∈ l0, H.smallG g.f2) then some (H.checkS a0 l0) else none
theorem ir_Check.calls (a0 : Int) (A : Option Addr) (c : Nat) (l0 : List S25) (r1 r2 r3 r4 : Int) (w : World) (h0 : Kd.C k25 w A l0.length l0) (hc : l0.length ≤ c) (h : ir_Check.f a0 l0 = some (r1, r2, r3, r4)) :
    Calls Try.prog 66 #[.agg #[.int .i64 a0, .slice A l0.length c]] w fun e w' => e = .returned (.tuple #[.int .i64 r1, .agg #[.int .i64 r2, .int .i64 r3], .int .i64 r4]) ∧ Below w.heap.size w w' := by
  unfold ir_Check.f at h
  split at h
  · rename_i hs
    have h := Option.some.inj h
    have := H.check_any A c a0 l0 w h0 hc hs
    rw [h] at this
    exact this
  · cases h
end Go.Proofs.Ytjmeignhhheckaa.Q
namespace Go.Proofs.Ytjmeignhhheckaa.H
open Go.RowKit Go.Maps Go.Proofs.YtjmeignhhheckaaW.PrintWords Go.Proofs.YtjmeignhhheckaaW.PrintLast Go.Proofs.Ytjmeignhhheckaa.Q
set_option maxRecDepth 100000
structure S166 where
  f0 : Int
  f1 : Int
def k166 : Kd S166 := Kd.iso (Kd.pair (Kd.int .i64) (Kd.int .i64)) (fun x : S166 => (x.f0, x.f1))
theorem k166_openM {w : World} {base : Nat} {ok : Nat → Prop} {x : S166} {cs : List Value} (h : k166.M w base ok x cs) : cs = [.int .i64 x.f0, .int .i64 x.f1] := by
  obtain ⟨_, _, rfl, rfl, rfl⟩ := h
  exact rfl
theorem k166_mkM (w : World) (base : Nat) (ok : Nat → Prop) (x : S166)  : k166.M w base ok x [.int .i64 x.f0, .int .i64 x.f1] := ⟨[.int .i64 x.f0], [.int .i64 x.f1], rfl, rfl, rfl⟩
theorem info166 : (Try.prog.info? 166).map (fun i => (i.zero, i.size, i.bytes)) = some (some (.agg #[(.int .i64 0), (.int .i64 0)]), 2, 16) := by kernel_rfl
/-- Order's loop; the stack's top first -/
def orderGo (bs : List S36) : Nat → List S166 → List Bool → List Int → Option (List Int)
  | _, [], _, out => some out
  | 0, _ :: _, _, _ => none
  | k + 1, s :: st, met, out =>
    if s.f1 < (nexts (rd_T36 bs s.f0)).length then
      if rdOf false met (rd (nexts (rd_T36 bs s.f0)) s.f1) then orderGo bs k (⟨s.f0, s.f1 + 1⟩ :: st) met out
      else orderGo bs k (⟨rd (nexts (rd_T36 bs s.f0)) s.f1, 0⟩ :: ⟨s.f0, s.f1 + 1⟩ :: st) (met.set (rd (nexts (rd_T36 bs s.f0)) s.f1).toNat true) out
    else orderGo bs k st met (out ++ [s.f0])
theorem R166_one {W : World} {base : Nat} (hb : base ≤ W.heap.size) (a b : Int) : Kd.R k166 166 (W.alloc (.cells #[.int .i64 a, .int .i64 b] 166)) base (fun _ => True) (.slice (some ⟨W.heap.size, 0, none⟩) 1 1) [⟨a, b⟩] := by
  refine ⟨fun _ _ => trivial, ?_⟩
  have := OwnRow.lit (e := 166) (size := 2) (R := k166.M (W.alloc (.cells #[.int .i64 a, .int .i64 b] 166)) base (fun k => True ∧ some k ≠ (Value.slice (some ⟨W.heap.size, 0, none⟩) 1 1).ownBlock)) (ps := [(⟨a, b⟩ : S166)]) W base (inner := [.int .i64 a, .int .i64 b]) ?_ hb (by simp)
  · exact this
  · refine ⟨by simp, fun j p hj => ?_⟩
    cases j with
    | zero => simp at hj; subst hj; exact k166_mkM _ _ _ _
    | succ j => simp at hj
/-- the top's second number is set -/
theorem R166_next {W : World} {base n : Nat} {ok : Nat → Prop} {A : Option Addr} {cap : Nat} {ys : List S166} {b m m2 : Int} (h : Kd.R k166 166 W base ok (.slice A n cap) (ys ++ [⟨b, m⟩])) :
    ∃ g, A = some ⟨g, 0, none⟩ ∧ ok g ∧ W.cell? ⟨g, ys.length * 2, none⟩ = some (.int .i64 b) ∧ W.cell? ⟨g, ys.length * 2 + 1, none⟩ = some (.int .i64 m) ∧ W.frozen? ⟨g, ys.length * 2 + 1, none⟩ = false ∧ base ≤ g ∧
      Kd.R k166 166 (W.setCell ⟨g, ys.length * 2 + 1, none⟩ (.int .i64 m2)) base ok (.slice A n cap) (ys ++ [⟨b, m2⟩]) := by
  obtain ⟨h0, inner, ho, hr⟩ := h
  obtain ⟨g, rfl⟩ : ∃ g, A = some ⟨g, 0, none⟩ := by
    rcases ho.2 with ⟨h1, h2⟩ | ⟨g, cap', cur, h1, _⟩
    · simp at h2
    · injection h1 with h1 _ _
      exact ⟨g, h1⟩
  have hn : n = (ys ++ [(⟨b, m⟩ : S166)]).length := by
    obtain ⟨A', c', he⟩ := own_slice ho
    injection he
  subst hn
  have hl : inner.length = (ys.length + 1) * 2 := by rw [hr.1]; simp; rfl
  have hlast : (inner.drop (ys.length * 2)).take 2 = [.int .i64 b, .int .i64 m] := by
    have := hr.2 ys.length ⟨b, m⟩ (by simp)
    exact k166_openM this
  have hdrop : inner.drop (ys.length * 2) = [.int .i64 b, .int .i64 m] := by
    rw [List.take_of_length_le (by rw [List.length_drop, hl]; omega)] at hlast
    exact hlast
  have hin : inner = inner.take (ys.length * 2) ++ [.int .i64 b, .int .i64 m] := by rw [← hdrop, List.take_append_drop]
  have htl : (inner.take (ys.length * 2)).length = ys.length * 2 := by rw [List.length_take, hl]; omega
  have hcell : ∀ j u, inner[j]? = some u → W.cell? ⟨g, j, none⟩ = some u := by
    intro j u hu
    rcases ho.2 with ⟨h1, _⟩ | ⟨g', cap', cur, h1, _, hh, _, _, hcs, htk⟩
    · simp at h1
    · injection h1 with h1 _ _
      have hg : g' = g := by injection h1 with h1; injection h1 with h1; exact h1.symm
      subst hg
      rw [blk_cell hh]
      rw [← htk] at hu
      rw [List.getElem?_take] at hu
      split at hu
      · simpa using hu
      · cases hu
  have hb : base ≤ g := own_base ho g rfl
  refine ⟨g, rfl, h0 g rfl, ?_, ?_, World.ownsRow.frozenAt ho _, hb, h0, inner.set (ys.length * 2 + 1) (.int .i64 m2), ?_, ?_⟩
  · refine hcell _ _ ?_
    rw [hin, List.getElem?_append_right (by omega), htl, Nat.sub_self]; rfl
  · refine hcell _ _ ?_
    rw [hin, List.getElem?_append_right (by omega), htl, Nat.add_sub_cancel_left]; rfl
  · have := (World.ownsRow.stored ho (ys.length * 2 + 1) (.int .i64 m2)).1
    simpa using this
  · have e : inner.set (ys.length * 2 + 1) (.int .i64 m2) = inner.take (ys.length * 2) ++ [.int .i64 b, .int .i64 m2] := by
      conv => lhs; rw [hin]
      rw [List.set_append_right _ _ (by omega), htl, Nat.add_sub_cancel_left]; rfl
    rw [e]
    have hr2 : Reps (k166.M (W.setCell ⟨g, ys.length * 2 + 1, none⟩ (.int .i64 m2)) base (fun k => ok k ∧ some k ≠ (Value.slice (some ⟨g, 0, none⟩) (ys ++ [(⟨b, m⟩ : S166)]).length cap).ownBlock)) k166.sz ys (inner.take (ys.length * 2)) := by
      have  := Kd.reps_take (m := ys.length) hr (by simp)
      rw [List.take_left' rfl] at this
      exact this.imp_ (fun p c hp => by rw [k166_openM hp]; exact k166_mkM _ _ _ _)
    exact hr2.snoc (k166_mkM _ _ _ ⟨b, m2⟩) rfl
structure OFr (w : World) (gm : Nat) (met : List Bool) (G : Array Value) (v4 v5 : Value) (out : List Int) (st : List S166) (wr : World) : Prop where
  bm : BB wr gm met
  bg : wr.heap[w.heap.size]? = some (.cells G 25 (0, 0))
  r : Kd.R k166 166 wr w.heap.size (fun _ => True) v5 st
  o : Kd.R (Kd.int .i64) 3 wr w.heap.size (fun _ => True) v4 out
  b : Below w.heap.size w wr
theorem OFr.below {w : World} {gm : Nat} {met : List Bool} {G : Array Value} {v4 v5 : Value} {out : List Int} {st : List S166} {wr wr' : World} (h : OFr w gm met G v4 v5 out st wr) (hb : Below wr.heap.size wr wr') : OFr w gm met G v4 v5 out st wr' :=
  ⟨blk_below h.bm hb, blk_below h.bg hb, Kd.R_below h.r hb, Kd.R_below h.o hb, below_step h.b hb⟩
theorem OFr.alloc {w : World} {gm : Nat} {met : List Bool} {G : Array Value} {v4 v5 : Value} {out : List Int} {st : List S166} {wr : World} (h : OFr w gm met G v4 v5 out st wr) (o : Obj) : OFr w gm met G v4 v5 out st (wr.alloc o) := h.below ((Below.refl _ wr).alloc (Nat.le_refl _) o)
theorem R_typed {α : Type} {d : Kd α} {e : Nat} {w : World} {base : Nat} {ok : Nat → Prop} {g n c : Nat} {xs : List α} (h : d.R e w base ok (.slice (some ⟨g, 0, none⟩) n c) xs) : ∃ cells, w.heap[g]? = some (.cells cells e (0, 0)) := by
  obtain ⟨inner, how, _⟩ := h.2
  exact own_typed how g rfl
theorem OFr.next {w : World} {gm gs n c : Nat} {met : List Bool} {G : Array Value} {v4 : Value} {out : List Int} {ys ys2 : List S166} {wr : World} {j : Nat} {u : Value} (h : OFr w gm met G v4 (.slice (some ⟨gs, 0, none⟩) n c) out ys wr)
    (hR : Kd.R k166 166 (wr.setCell ⟨gs, j, none⟩ u) w.heap.size (fun _ => True) (.slice (some ⟨gs, 0, none⟩) n c) ys2) (hb : w.heap.size ≤ gs) : OFr w gm met G v4 (.slice (some ⟨gs, 0, none⟩) n c) out ys2 (wr.setCell ⟨gs, j, none⟩ u) := by
  obtain ⟨cells, hc⟩ := R_typed h.r
  exact ⟨blk_far h.bm (blk_ne h.bm hc (by decide)) _, blk_far h.bg (blk_ne h.bg hc (by decide)) _, hR, Kd.R_set h.o hc (by decide) j u, below_set h.b hb⟩
theorem OFr.setm {w : World} {gm : Nat} {met : List Bool} {G : Array Value} {v4 v5 : Value} {out : List Int} {st : List S166} {wr : World} (h : OFr w gm met G v4 v5 out st wr) (hb : w.heap.size < gm) (i : Nat) (b : Bool) : OFr w gm (met.set i b) G v4 v5 out st (wr.setCell ⟨gm, i, none⟩ (.bool b)) :=
  ⟨h.bm.set i b, blk_far h.bg (by dsimp only; omega) _, Kd.R_set h.r h.bm (by decide) i _, Kd.R_set h.o h.bm (by decide) i _, below_set h.b (Nat.le_of_lt hb)⟩
theorem OFr.push {w : World} {gm : Nat} {met : List Bool} {G : Array Value} {v4 v5 v1 : Value} {out : List Int} {st st2 : List S166} {wr w1 : World} (h : OFr w gm met G v4 v5 out st wr) (hR : Kd.R k166 166 w1 w.heap.size (fun _ => True) v1 st2) (hg : wr.grownBy w1 v5.ownBlock) (hb : Below w.heap.size w w1) : OFr w gm met G v4 v1 out st2 w1 :=
  ⟨blk_grown h.bm hg (Kd.R_ne h.r h.bm (by decide)), blk_grown h.bg hg (Kd.R_ne h.r h.bg (by decide)), hR, R_grown_ty h.o h.r hg (by decide), hb⟩
theorem OFr.tell {w : World} {gm : Nat} {met : List Bool} {G : Array Value} {v4 v5 v1 : Value} {out out2 : List Int} {st : List S166} {wr w1 : World} (h : OFr w gm met G v4 v5 out st wr) (hR : Kd.R (Kd.int .i64) 3 w1 w.heap.size (fun _ => True) v1 out2) (hg : wr.grownBy w1 v4.ownBlock) (hb : Below w.heap.size w w1) : OFr w gm met G v1 v5 out2 st w1 :=
  ⟨blk_grown h.bm hg (Kd.R_ne h.o h.bm (by decide)), blk_grown h.bg hg (Kd.R_ne h.o h.bg (by decide)), R_grown_ty h.r h.o hg (by decide), hR, hb⟩
/-- turned round from both ends, i steps -/
def RevI (out l : List Int) (i : Nat) : Prop := ∀ k, k < out.length → l.getD k 0 = if k < i ∨ out.length - 1 - i < k then out.getD (out.length - 1 - k) 0 else out.getD k 0
theorem RevI.start (out : List Int) : RevI out out 0 := fun k hk => by rw [if_neg (by omega)]
theorem RevI.done {out l : List Int} {i : Nat} (h : RevI out l i) (hl : l.length = out.length) (hi : ¬ (i : Int) < (out.length : Int) - 1 - i) : l = out.reverse := by
  refine List.ext_getElem (by simp [hl]) (fun k h1 h2 => ?_)
  have := h k (by omega)
  rw [List.getElem_reverse]
  have e1 : l.getD k 0 = l[k] := by simp [h1]
  rw [← e1, this]
  by_cases hc : k < i ∨ out.length - 1 - i < k
  · rw [if_pos hc]
    have : out.length - 1 - k < out.length := by omega
    simp [this]
  · rw [if_neg hc]
    have h3 : k = out.length - 1 - k := by omega
    have : k < out.length := by omega
    simp only [List.getD_eq_getElem?_getD, List.getElem?_eq_getElem this, Option.getD_some]
    congr 1
theorem RevI.step {out l : List Int} {i : Nat} (h : RevI out l i) (hl : l.length = out.length) (hi : (i : Int) < (out.length : Int) - 1 - i) :
    RevI out ((l.set i (l.getD (out.length - 1 - i) 0)).set (out.length - 1 - i) (l.getD i 0)) (i + 1) := by
  intro k hk
  have hj := h (out.length - 1 - i) (by omega)
  have h0 := h i (by omega)
  rw [if_neg (by omega)] at hj h0
  have hk0 := h k hk
  simp only [List.getD_eq_getElem?_getD, List.getElem?_set, List.length_set] at *
  by_cases e1 : out.length - 1 - i = k
  · subst e1
    rw [if_pos rfl, if_pos (by omega), if_pos (by omega)]
    simp only [Option.getD_some]
    rw [h0]
    congr 2
    omega
  · rw [if_neg e1]
    by_cases e2 : i = k
    · subst e2
      rw [if_pos rfl, if_pos (by omega), if_pos (by omega)]
      simp only [Option.getD_some]
      rw [hj]
    · rw [if_neg e2, hk0]
      by_cases hc : k < i ∨ out.length - 1 - i < k
      · rw [if_pos hc, if_pos (by omega)]
      · rw [if_neg hc, if_neg (by omega)]
set_option maxHeartbeats 4000000 in
theorem order_any (A0 : Option Addr) (c0 : Nat) (l0 : List Bool) (a1 : Int) (A2 : Option Addr) (c2 : Nat) (bs : List S36) (k : Nat) (r : List Int) (w : World)
    (h2 : Kd.C k36 w A2 bs.length bs) (hc2 : bs.length ≤ c2) (hne : 0 < bs.length) (hsz : bs.length ≤ 5000) (hk : k ≤ 100000) (hT : okT bs) (h : orderGo bs k [⟨0, 0⟩] ((List.replicate bs.length false).set 0 true) [] = some r) :
    Calls Try.prog 85 #[.agg #[.slice A0 l0.length c0, .int .i64 a1, .slice A2 bs.length c2]] w fun e w' => ∃ v, e = .returned v ∧ Kd.R (Kd.int .i64) 3 w' w.heap.size (fun _ => True) v r.reverse ∧ Below w.heap.size w w' := by
  have H := Lib.hid h
  have H2 := Lib.hid h2
  have HT := Lib.hid hT
  clear h h2 hT
  have hu25 := Try.underlying25
  have hu166 := Try.underlying166
  have hu36 := Try.underlying36
  have hmk : ∀ W : World, (Instr.makeSlice 22 (.int .i64 bs.length) (.int .i64 bs.length)).run Try.prog W = .ok (.slice (some ⟨W.heap.size, 0, none⟩) bs.length bs.length) (W.alloc (.cells (Array.replicate bs.length (.bool false)) 4)) := fun W => by
    have := print_make_of (P := Try.prog) 22 4 (.bool false) 1 Try.underlying22 info4 rfl (by decide) bs.length (by omega) W
    rw [this]
    congr 3
    apply Array.ext'
    simp only [madeCells, Array.toList_map, Array.toList_range, Array.toList_replicate]
    refine List.ext_getElem (by simp) (fun i h1 h2 => ?_)
    simp [Nat.mod_one]
  have HG := Lib.hid (blk_new w (.cells #[.slice A0 l0.length c0, .int .i64 a1, .slice A2 bs.length c2] 25))
  have HB := Lib.hid (below_alloc (Below.refl w.heap.size w) (.cells #[.slice A0 l0.length c0, .int .i64 a1, .slice A2 bs.length c2] 25))
  have HM := Lib.hid (show BB ((w.alloc (.cells #[.slice A0 l0.length c0, .int .i64 a1, .slice A2 bs.length c2] 25)).alloc (.cells (Array.replicate bs.length (.bool false)) 4)) (w.heap.size + 1) (List.replicate bs.length false) from by
    unfold BB
    rw [rep_eq]
    have := blk_new (w.alloc (.cells #[.slice A0 l0.length c0, .int .i64 a1, .slice A2 bs.length c2] 25)) (.cells (Array.replicate bs.length (.bool false)) 4)
    rwa [show (w.alloc (.cells #[.slice A0 l0.length c0, .int .i64 a1, .slice A2 bs.length c2] 25)).heap.size = w.heap.size + 1 from by simp] at this)
  have hz0 := (HM.out.cell 0 (by omega) (by simp; omega))
  have hf0 := blk_frozen HM.out 0
  have HOF := Lib.hid (show OFr w (w.heap.size + 1) ((List.replicate bs.length false).set 0 true) #[.slice A0 l0.length c0, .int .i64 a1, .slice A2 bs.length c2] (.slice none 0 0) (.slice (some ⟨w.heap.size + 1 + 1, 0, none⟩) 1 1) [] [⟨0, 0⟩]
      (((w.alloc (.cells #[.slice A0 l0.length c0, .int .i64 a1, .slice A2 bs.length c2] 25)).alloc (.cells ((Array.replicate bs.length (.bool false)).setIfInBounds 0 (.bool true)) 4)).alloc (.cells #[.int .i64 0, .int .i64 0] 166)) from by
    have e1 : (w.alloc (.cells #[.slice A0 l0.length c0, .int .i64 a1, .slice A2 bs.length c2] 25)).heap.size = w.heap.size + 1 := by simp
    have e2 : ((w.alloc (.cells #[.slice A0 l0.length c0, .int .i64 a1, .slice A2 bs.length c2] 25)).alloc (.cells ((Array.replicate bs.length (.bool false)).setIfInBounds 0 (.bool true)) 4)).heap.size = w.heap.size + 1 + 1 := by simp
    have hb2 := below_alloc HB.out (.cells ((Array.replicate bs.length (.bool false)).setIfInBounds 0 (.bool true)) 4)
    refine ⟨?_, blk_alloc (blk_alloc HG.out _) _, ?_, Kd.R_nil _ _ _ _ _, below_alloc hb2 _⟩
    · have := blk_new (w.alloc (.cells #[.slice A0 l0.length c0, .int .i64 a1, .slice A2 bs.length c2] 25)) (.cells ((Array.replicate bs.length (.bool false)).setIfInBounds 0 (.bool true)) 4)
      rw [e1] at this
      unfold BB
      rw [List.map_set, ← List.setIfInBounds_toArray, rep_eq]
      exact blk_alloc this _
    · have := R166_one (W := (w.alloc (.cells #[.slice A0 l0.length c0, .int .i64 a1, .slice A2 bs.length c2] 25)).alloc (.cells ((Array.replicate bs.length (.bool false)).setIfInBounds 0 (.bool true)) 4)) (base := w.heap.size) hb2.size 0 0
      rwa [e2] at this)
  clear HB HG HM
  go_enter Try.func85, Try.ntmps85
  go_wp2
  clear hz0 hf0 hmk
  go_loopg [4, 5] k (fun kq v4 v5 wr => ∃ (st : List S166) (met : List Bool) (out : List Int), OFr w (w.heap.size + 1) met #[.slice A0 l0.length c0, .int .i64 a1, .slice A2 bs.length c2] v4 v5 out st.reverse wr ∧ met.length = bs.length ∧ (∀ s ∈ st, 0 ≤ s.f0 ∧ s.f0 < bs.length ∧ 0 ≤ s.f1) ∧ orderGo bs kq st met out = some r ∧ st.length + kq ≤ k + 1 ∧ out.length + kq ≤ k)
  case atStart => exact ⟨[⟨0, 0⟩], _, [], HOF.out, by simp, by simp; omega, H.out, by simp; omega, by simp⟩
  case round =>
    obtain ⟨st, met, out, hF, hml, hst, hgo, hb1, hb2⟩ := hrel
    clear HOF H
    obtain ⟨wq, rfl⟩ : ∃ wq : World, wq = wr := ⟨_, rfl⟩
    have HF := Lib.hid hF
    have HML := Lib.hid hml
    have HST := Lib.hid hst
    have H := Lib.hid hgo
    clear hF hml hst hgo
    cases st with
    | nil =>
      have hgo := H.out
      simp only [orderGo, Option.some.injEq] at hgo
      have HGO := Lib.hid hgo
      clear hgo
      obtain ⟨A, c, hv, hc, hC⟩ := Kd.R_reads HF.out.r
      simp only [List.reverse_nil, List.length_nil] at hv
      subst hv
      clear hC
      obtain ⟨A4, c4, hv4, hc4, hC4⟩ := Kd.R_reads HF.out.o
      subst hv4
      clear hC4
      have hol : out.length ≤ 200000 := by omega
      go_wp2
      go_loopw [9, 10] (fun vi vj wr => ∃ (i : Nat) (l : List Int), 2 * i ≤ out.length + 1 ∧ vi = .int .i64 i ∧ vj = .int .i64 ((out.length : Int) - 1 - i) ∧ l.length = out.length ∧ RevI out l i ∧ Kd.R (Kd.int .i64) 3 wr w.heap.size (fun _ => True) (.slice A4 out.length c4) l ∧ Below w.heap.size w wr) (fun vi _ _ => out.length - (intOf vi).toNat)
      case atStart => exact ⟨0, out, by omega, rfl, by simp, rfl, RevI.start out, HF.out.o, HF.out.b⟩
      case round =>
        obtain ⟨i, l, hi, rfl, rfl, hll, hrev, hR, hB⟩ := hrel
        have HLL := Lib.hid hll
        have HREV := Lib.hid hrev
        have HR := Lib.hid hR
        have HB := Lib.hid hB
        clear hll hrev hR hB HF
        by_cases hlt : (i : Int) < (out.length : Int) - 1 - i
        · obtain ⟨g, rfl⟩ : ∃ g, A4 = some ⟨g, 0, none⟩ := by
            obtain ⟨inner, ho⟩ := Kd.R_own HR.out
            rcases ho.2 with ⟨h1, h2⟩ | ⟨g, cap', cur, h1, _⟩
            · have := HLL.out; omega
            · injection h1 with h1 _ _
              exact ⟨g, h1⟩
          obtain ⟨inner, ho⟩ := Kd.R_own HR.out
          rw [HLL.out] at ho
          have hfr := fun j => World.ownsRow.frozenAt ho j
          have HFR := Lib.hid hfr
          have HGB := Lib.hid (own_base ho g rfl)
          clear hfr ho
          obtain ⟨A', c', hv', hc', hC⟩ := Kd.R_reads HR.out
          rw [HLL.out] at hv' hC
          injection hv' with hA' _ hcc
          subst hA'
          subst hcc
          obtain ⟨ad, hA, f0⟩ := Kd.at_int hC (i : Int) (by omega) (by omega)
          obtain ⟨ad', hA', f1⟩ := Kd.at_int hC ((out.length : Int) - 1 - i) (by omega) (by omega)
          obtain rfl := Option.some.inj hA
          obtain rfl := Option.some.inj hA'
          rw [add_plain] at f0 f1
          simp only [Int.toNat_natCast] at f0
          clear hC hc' hA hA'
          have z0 := HFR.out i
          have z1 := HFR.out (out.length - 1 - i)
          rw [show ((out.length : Int) - 1 - i).toNat = out.length - 1 - i from by omega] at f1
          have HB0 : 0 ≤ (out.length : Int) - 1 - i := by omega
          have HB1 : (out.length : Int) - 1 - i < out.length := by omega
          have HLT := Lib.hid hlt
          have hin : (i : Int) ≤ (out.length : Int) - 1 := by omega
          have HR2 := Lib.hid (Kd.R_drew (Kd.R_putn (Kd.R_putn HR.out (i : Int) (rd l ((out.length : Int) - 1 - i))) ((out.length - 1 - i : Nat) : Int) (rd l i)))
          have HB2 := Lib.hid (below_drew (below_set (below_set HB.out HGB.out (j := i) (v := .int .i64 (rd l ((out.length : Int) - 1 - i)))) HGB.out (j := out.length - 1 - i) (v := .int .i64 (rd l i))))
          have HST2 := Lib.hid (HREV.out.step HLL.out hlt)
          go_wp2
          go_region
          go_wp2
          go_roundw
          case rel =>
            refine ⟨i + 1, _, by have := HLT.out; omega, by go_num, ?_, ?_, ?_, HR2.out, HB2.out⟩
            · have := HLT.out
              congr 1
              push_cast
              omega
            · simp [HLL.out]
            · have h := HST2.out
              have e1 : rd l ((out.length : Int) - 1 - i) = l.getD (out.length - 1 - i) 0 := by
                unfold rd
                rw [show ((out.length : Int) - 1 - i).toNat = out.length - 1 - i from by have := HLT.out; omega]
              have e2 : rd l (i : Int) = l.getD i 0 := rfl
              rw [e1, e2]
              exact h
          case measure => simp [intOf]; omega
        · have HLT := Lib.hid hlt
          go_wp2
          go_ret
          refine ⟨_, rfl, ?_, HB.out⟩
          rw [← HGO.out, ← HREV.out.done HLL.out (by have := HLT.out; omega)]
          exact HR.out
    | cons s st =>
      cases gk with
      | zero => have := H.out; simp [orderGo] at this
      | succ g =>
        obtain ⟨sb, sn⟩ := s
        have hsb := HST.out ⟨sb, sn⟩ (by simp)
        dsimp only at hsb
        have HR := Lib.hid (by have := HF.out.r; rwa [List.reverse_cons] at this)
        obtain ⟨A, c, hv, hc, hC⟩ := Kd.R_reads HR.out
        have hlen : (st.reverse ++ [(⟨sb, sn⟩ : S166)]).length = st.length + 1 := by simp
        rw [hlen] at hv hc hC
        subst hv
        clear hC hlen
        obtain ⟨gs, hA, _, hs0, hs1, hsf, hgb, hRn⟩ := R166_next (m2 := sn + 1) HR.out
        subst hA
        rw [List.length_reverse] at hs0 hs1 hsf hRn
        have HRN := Lib.hid hRn
        have hsc : st.length + 1 ≤ c := hc
        have hst5 : st.length ≤ 200000 := by simp only [List.length_cons] at hb1; omega
        clear hRn hc
        have hg2 : wq.cell? ⟨w.heap.size, 2, none⟩ = some (.slice A2 bs.length c2) := (blk_cell HF.out.bg 2).trans rfl
        obtain ⟨ad2, A3, c3, hA, b0, b1, b2, b3, b4, hc3, hC3⟩ := at_T36 H2.out sb hsb.1 hsb.2.1
        subst hA
        have b0 := pw_cell_below HF.out.b b0
        have b1 := pw_cell_below HF.out.b b1
        have b2 := pw_cell_below HF.out.b b2
        have b3 := pw_cell_below HF.out.b b3
        have b4 := pw_cell_below HF.out.b b4
        have HTB := Lib.hid (show ∀ t ∈ nexts (rd_T36 bs sb), 0 ≤ t ∧ t < bs.length from HT.out _ (getD_mem (by omega)))
        have hdef := H.out
        simp only [orderGo] at hdef
        have HD := Lib.hid hdef
        clear hdef
        generalize rd_T36 bs sb = bk at *
        have HC3 := Lib.hid hC3
        have HLC := Lib.hid hc3
        have hcm := hC3.2.1
        clear hC3 hc3
        go_wp2
        refine wp_region_still_tail 8 (by kernel_rfl) (by kernel_rfl) ?_
        simp only [List.take_succ_cons, List.take_zero, List.drop_succ_cons, List.drop_zero]
        repeat still_step
        refine wpStill_nil ?_
        go_wp2_with fail
        clear b0 b1 b2 b3 b4 hg2 hs0 hs1 hsf HRN HR
        refine (next_calls A3 c3 bk _ (Kd.C_drew (Kd.C_below HC3.out HF.out.b)) HLC.out).mono ?_
        rintro e w4 ⟨v, rfl, hR4, hb4⟩
        have HF4 := Lib.hid ((HF.out.below ((Below.refl _ wq).drew)).below hb4)
        have HN := Lib.hid (Kd.R_lower hR4 (show w.heap.size ≤ wq.drew.heap.size from HF.out.b.size))
        clear hR4 hb4 HF
        obtain ⟨A5, c5, hv5, hc5, hC5⟩ := Kd.R_reads HN.out
        subst hv5
        have hn2 := nexts_len bk
        have HR4 := Lib.hid (by have := HF4.out.r; rwa [List.reverse_cons] at this)
        obtain ⟨gs', hA, _, hs0, hs1, hsf, hgb', hRn⟩ := R166_next (m2 := sn + 1) HR4.out
        obtain rfl : gs' = gs := by injection hA with hA; injection hA with hA; exact hA.symm
        rw [List.length_reverse] at hs0 hs1 hsf hRn
        have HF5 := Lib.hid (HF4.out.next hRn hgb)
        clear hRn hA hgb'
        by_cases hlt : sn < (nexts bk).length
        · obtain ⟨ad5, hA5, f0⟩ := Kd.at_int hC5 sn hsb.2.2 hlt
          subst hA5
          clear hC5
          have hto := HTB.out (rd (nexts bk) sn) (getD_mem (by omega))
          have HD2 := Lib.hid (by have := HD.out; rwa [if_pos hlt] at this)
          have hmc := HF5.out.bm.cell (rd (nexts bk) sn) hto.1 (by rw [HML.out]; exact hto.2)
          have hmf := blk_frozen HF5.out.bm (rd (nexts bk) sn).toNat
          cases hq : rdOf false met (rd (nexts bk) sn) with
          | true =>
            rw [hq] at hmc
            have HD3 := Lib.hid (by have := HD2.out; rwa [hq, if_pos rfl] at this)
            go_wp2
            go_roundg g
            case measure => omega
            case rel =>
              refine ⟨⟨sb, sn + 1⟩ :: st, met, out, ?_, HML.out, ?_, HD3.out, ?_, ?_⟩
              · rw [List.reverse_cons]; exact HF5.out
              · intro v hv
                rcases List.mem_cons.1 hv with rfl | hv
                · exact ⟨hsb.1, hsb.2.1, by dsimp only; omega⟩
                · exact HST.out v (by simp [hv])
              · simp only [List.length_cons] at hb1 ⊢; omega
              · omega
          | false =>
            rw [hq] at hmc
            have HD3 := Lib.hid (by have := HD2.out; rwa [hq, if_neg (by decide)] at this)
            have HF6 := Lib.hid (HF5.out.setm (Nat.lt_succ_self _) (rd (nexts bk) sn).toNat true)
            go_upto_region 13 with fail
            clear hs0 hs1 hsf hmc hmf f0 HF5 HF4 HR4 HN
            generalize (w4.setCell ⟨gs', st.length * 2 + 1, none⟩ (.int .i64 (sn + 1))).setCell ⟨w.heap.size + 1, (rd (nexts bk) sn).toNat, none⟩ (.bool true) = w6 at *
            go_wp2_with ((with_reducible refine gate_builtin (b := .append) (xs := #[.tmp 65, .tmp 68]) rfl ?_); at_builtin; go_loud (refine Kd.R_append k166 (w0 := w) w.heap.size rfl (.tmp 65) (.tmp 68) 167 166 (.agg #[(.int .i64 0), (.int .i64 0)]) 16 rfl Try.underlying167 info166 rfl (by decide) (by decide) (.slice (some ⟨gs', 0, none⟩) (st.length + 1) c) (st.reverse ++ [(⟨sb, sn + 1⟩ : S166)]) (⟨rd (nexts bk) sn, 0⟩ : S166) [.int .i64 (rd (nexts bk) sn), .int .i64 0] (fun _ => True) (fun _ => False) rfl rfl ?aP (fun _ hk => hk.elim) ?aF ?aO ?aB ?aS ?aL ?_; (case aP => exact k166_mkM _ _ _ (⟨rd (nexts bk) sn, 0⟩ : S166)); (case aB => exact HF6.out.b); (case aF => exact (fun _ _ => trivial)); (case aO => exact HF6.out.r); (case aS => exact HF6.out.b.size); (case aL => (simp only [List.length_append, List.length_reverse, List.length_cons, List.length_nil]; omega)); intro v1 w1 hR1 hb1 hg1 hat1; have HF7 := Lib.hid (HF6.out.push hR1 hg1 hb1); clear hR1 hb1 hg1 hat1))
            go_roundg g
            case measure => omega
            case rel =>
              refine ⟨⟨rd (nexts bk) sn, 0⟩ :: ⟨sb, sn + 1⟩ :: st, _, out, ?_, ?_, ?_, HD3.out, ?_, ?_⟩
              · rw [List.reverse_cons, List.reverse_cons]; exact HF7.out
              · rw [List.length_set]; exact HML.out
              · intro v hv
                rcases List.mem_cons.1 hv with rfl | hv
                · exact ⟨hto.1, hto.2, Int.le_refl _⟩
                · rcases List.mem_cons.1 hv with rfl | hv
                  · exact ⟨hsb.1, hsb.2.1, by dsimp only; omega⟩
                  · exact HST.out v (by simp [hv])
              · simp only [List.length_cons] at hb1 ⊢; omega
              · omega
        · clear hC5 HF5
          have HD2 := Lib.hid (by have := HD.out; rwa [if_neg hlt] at this)
          go_wp2_with ((with_reducible refine gate_builtin (b := .append) (xs := #[.tmp 70, .tmp 75]) rfl ?_); at_builtin; go_loud (refine Kd.R_append (Kd.int .i64) (w0 := w) w.heap.size rfl (.tmp 70) (.tmp 75) 37 3 (.int .i64 0) 8 rfl Try.underlying37 info3 rfl (by decide) (by decide) u4 out sb [.int .i64 sb] (fun _ => True) (fun _ => False) rfl rfl ?aP (fun _ hk => hk.elim) ?aF ?aO ?aB ?aS ?aL ?_; (case aP => exact rfl); (case aB => exact HF4.out.b); (case aF => exact (fun _ _ => trivial)); (case aO => exact HF4.out.o); (case aS => exact HF4.out.b.size); (case aL => omega); intro v1 w1 hR1 hb1 hg1 hat1; have HF7 := Lib.hid (HF4.out.tell hR1 hg1 hb1); clear hR1 hb1 hg1 hat1))
          go_roundg g
          case measure => omega
          case rel =>
            refine ⟨st, met, out ++ [sb], ?_, HML.out, fun v hv => HST.out v (by simp [hv]), HD2.out, ?_, ?_⟩
            · have h7 := HF7.out
              have := Kd.R_take (m := st.length) h7.r (by simp)
              rw [List.reverse_cons, List.take_left' (by simp)] at this
              exact ⟨h7.bm, h7.bg, this, h7.o, h7.b⟩
            · simp only [List.length_cons] at hb1; omega
            · rw [List.length_append]; simp; omega
end Go.Proofs.Ytjmeignhhheckaa.H
namespace Go.Proofs.Ytjmeignhhheckaa.H
open Go.RowKit Go.Maps Go.Proofs.YtjmeignhhheckaaW.PrintWords Go.Proofs.YtjmeignhhheckaaW.PrintLast Go.Proofs.Ytjmeignhhheckaa.Q
set_option maxRecDepth 100000
def stW (st : List S166) : Nat := (st.map fun s => 3 - s.f1.toNat).sum
theorem order_ends (bs : List S36) (hT : okT bs) : ∀ (k : Nat) (st : List S166) (met : List Bool) (out : List Int), (∀ s ∈ st, 0 ≤ s.f0 ∧ s.f0 < bs.length ∧ 0 ≤ s.f1 ∧ s.f1 ≤ (nexts (rd_T36 bs s.f0)).length) → met.length = bs.length → stW st + 4 * unset met ≤ k →
    ∃ r, orderGo bs k st met out = some r := by
  intro k
  induction k with
  | zero =>
    intro st met out hst hm hk
    cases st with
    | nil => exact ⟨_, rfl⟩
    | cons s st =>
      have h := hst s (by simp)
      have := nexts_len (rd_T36 bs s.f0)
      simp only [stW, List.map_cons, List.sum_cons] at hk
      omega
  | succ k ih =>
    intro st met out hst hm hk
    cases st with
    | nil => exact ⟨_, rfl⟩
    | cons s st =>
      obtain ⟨sb, sn⟩ := s
      have h := hst ⟨sb, sn⟩ (by simp)
      dsimp only at h
      have hn := nexts_len (rd_T36 bs sb)
      simp only [stW, List.map_cons, List.sum_cons] at hk
      simp only [orderGo]
      by_cases hlt : sn < (nexts (rd_T36 bs sb)).length
      · rw [if_pos hlt]
        have hto := hT _ (getD_mem (d := z36) (by omega : sb.toNat < bs.length)) (rd (nexts (rd_T36 bs sb)) sn) (getD_mem (show sn.toNat < (nexts (rd_T36 bs sb)).length from by omega))
        by_cases hq : rdOf false met (rd (nexts (rd_T36 bs sb)) sn) = true
        · rw [if_pos hq]
          refine ih _ _ _ ?_ hm ?_
          · intro s hs
            rcases List.mem_cons.1 hs with rfl | hs
            · exact ⟨h.1, h.2.1, by dsimp only; omega, by dsimp only; omega⟩
            · exact hst s (by simp [hs])
          · simp only [stW, List.map_cons, List.sum_cons]; omega
        · rw [if_neg hq]
          have hu := unset_set met _ hto.1 (by rw [hm]; exact hto.2) (by simpa using hq)
          refine ih _ _ _ ?_ (by simp [hm]) ?_
          · intro s hs
            rcases List.mem_cons.1 hs with rfl | hs
            · exact ⟨hto.1, hto.2, Int.le_refl _, by dsimp only; omega⟩
            · rcases List.mem_cons.1 hs with rfl | hs
              · exact ⟨h.1, h.2.1, by dsimp only; omega, by dsimp only; omega⟩
              · exact hst s (by simp [hs])
          · simp only [stW, List.map_cons, List.sum_cons]; omega
      · rw [if_neg hlt]
        refine ih _ _ _ (fun s hs => hst s (by simp [hs])) hm ?_
        simp only [stW]; omega
theorem unset_le (l : List Bool) : unset l ≤ l.length := List.countP_le_length
def orderS (bs : List S36) : List Int := ((orderGo bs (4 * bs.length + 4) [⟨0, 0⟩] ((List.replicate bs.length false).set 0 true) []).getD []).reverse
theorem orderS_eq (bs : List S36) (hT : okT bs) (hne : 0 < bs.length) : ∃ r, orderGo bs (4 * bs.length + 4) [⟨0, 0⟩] ((List.replicate bs.length false).set 0 true) [] = some r ∧ r.reverse = orderS bs := by
  have hu := unset_le ((List.replicate bs.length false).set 0 true)
  rw [List.length_set, List.length_replicate] at hu
  obtain ⟨r, hr⟩ := order_ends bs hT (4 * bs.length + 4) [⟨0, 0⟩] ((List.replicate bs.length false).set 0 true) [] (by simp; omega) (by simp) (by simp [stW]; omega)
  exact ⟨r, hr, by unfold orderS; rw [hr]; rfl⟩
instance (bs : List S36) : Decidable (okT bs) := by unfold okT; exact inferInstance
end Go.Proofs.Ytjmeignhhheckaa.H
namespace Go.Proofs.Ytjmeignhhheckaa.Q
open Go.RowKit Go.Proofs.YtjmeignhhheckaaW.PrintWords Go.Proofs.YtjmeignhhheckaaW.PrintLast Go.Proofs.YtjmeignhhheckaaW
/-- paths.Order, where the ways lead somewhere -/
def paths_Order.f (_l0 : List Bool) (_a1 : Int) (bs : List S36) : Option (List Int) := if 0 < bs.length ∧ bs.length ≤ 5000 ∧ H.okT bs then some (H.orderS bs) else none
theorem paths_Order.calls (A0 : Option Addr) (c0 : Nat) (l0 : List Bool) (a1 : Int) (A2 : Option Addr) (c2 : Nat) (l2 : List S36) (r : List Int) (w : World) (_h0 : Kd.C Kd.bool w A0 l0.length l0) (_hc0 : l0.length ≤ c0) (h2 : Kd.C k36 w A2 l2.length l2) (hc2 : l2.length ≤ c2) (h : paths_Order.f l0 a1 l2 = some r) :
    Calls Try.prog 85 #[.agg #[.slice A0 l0.length c0, .int .i64 a1, .slice A2 l2.length c2]] w fun e w' => ∃ v0_ : Value, e = .returned (v0_) ∧ Kd.R (Kd.int .i64) 3 w' w.heap.size (fun _ => True) v0_ r ∧ Below w.heap.size w w' := by
  unfold paths_Order.f at h
  split at h
  · rename_i hs
    have h := Option.some.inj h
    obtain ⟨r', hr, he⟩ := H.orderS_eq l2 hs.2.2 hs.1
    rw [← h, ← he]
    exact H.order_any A0 c0 l0 a1 A2 c2 l2 _ r' w h2 hc2 hs.1 hs.2.1 (by omega) hs.2.2 hr
  · cases h
/-- paths.Sides, where the ways lead somewhere -/
def paths_Sides.f (_l0 : List Bool) (_a1 : Int) (bs : List S36) : Option (List Bool × List Bool) := if 0 < bs.length ∧ bs.length ≤ 5000 ∧ H.okT bs then some (H.sidesOf bs) else none
theorem R_bools {w : World} {base g : Nat} {ok : Nat → Prop} {xs : List Bool} {n : Nat} (h : H.BB w g xs) (hn : xs.length = n) (hb : base ≤ g) (hok : ok g) (hm : n ≤ 9223372036854775807) : Kd.R Kd.bool 4 w base ok (.slice (some ⟨g, 0, none⟩) n n) xs := by
  subst hn
  refine Kd.R_of_own ?_ ?_
  · refine ⟨by simp [PrintWords.encs], .inr ⟨g, xs.length, (xs.map Value.bool).toArray, rfl, hb, h, Nat.le_refl _, by simpa [maxLen] using hm, by simp, ?_⟩⟩
    simp [PrintWords.encs]
    rw [List.take_of_length_le (by simp)]
  · intro k hk
    have : g = k := by simpa [Value.ownBlock] using hk
    subst this; exact hok
theorem paths_Sides.calls (A0 : Option Addr) (c0 : Nat) (l0 : List Bool) (a1 : Int) (A2 : Option Addr) (c2 : Nat) (l2 : List S36) (r1 r2 : List Bool) (w : World) (_h0 : Kd.C Kd.bool w A0 l0.length l0) (_hc0 : l0.length ≤ c0) (h2 : Kd.C k36 w A2 l2.length l2) (hc2 : l2.length ≤ c2) (h : paths_Sides.f l0 a1 l2 = some (r1, r2)) :
    Calls Try.prog 89 #[.agg #[.slice A0 l0.length c0, .int .i64 a1, .slice A2 l2.length c2]] w fun e w' => ∃ v0_ v1_ : Value, e = .returned (.tuple #[v0_, v1_]) ∧ Kd.R Kd.bool 4 w' w.heap.size (fun k_ => some k_ ≠ (v1_ : Value).ownBlock) v0_ r1 ∧ Kd.R Kd.bool 4 w' w.heap.size (fun k_ => some k_ ≠ (v0_ : Value).ownBlock) v1_ r2 ∧ Below w.heap.size w w' := by
  unfold paths_Sides.f at h
  split at h
  · rename_i hs
    have h := Option.some.inj h
    have he := H.sidesOf_eq l2 hs.2.2 hs.1
    rw [h] at he
    refine (H.sides_calls A0 c0 l0 a1 A2 c2 l2 _ r1 r2 w h2 hc2 hs.1 hs.2.1 (by omega) hs.2.2 he.1).mono ?_
    rintro e w' ⟨gi, go, rfl, hgi, hgo, hne, hi, ho, hb⟩
    exact ⟨_, _, rfl, R_bools hi he.2.1 hgi (by simp [Value.ownBlock, hne]) (by omega), R_bools ho he.2.2 hgo (by simp [Value.ownBlock, Ne.symm hne]) (by omega), hb⟩
  · cases h
end Go.Proofs.Ytjmeignhhheckaa.Q
namespace Go.Proofs.Ytjmeignhhheckaa.H
open Go.RowKit Go.Maps Go.Proofs.YtjmeignhhheckaaW.PrintWords Go.Proofs.YtjmeignhhheckaaW.PrintLast Go.Proofs.Ytjmeignhhheckaa.Q
set_option maxRecDepth 100000
def wv (n : Nat) : Value := .int .u64 n
def okW (ws : List Nat) : Prop := ws.length = 16 ∧ ∀ x ∈ ws, x < 18446744073709551616
def SB (w : World) (g : Nat) (ws : List Nat) : Prop := w.heap[g]? = some (.cells (ws.map wv).toArray 98 (0, 0))
def putW (ws : List Nat) (r : Nat) : List Nat := ws.set (r / 64) (ws.getD (r / 64) 0 ||| 2 ^ (r % 64))
def dropW (ws : List Nat) (r : Nat) : List Nat := ws.set (r / 64) (ws.getD (r / 64) 0 &&& (18446744073709551615 - 2 ^ (r % 64)))
theorem SB.cell {w : World} {g : Nat} {ws : List Nat} (h : SB w g ws) (i : Nat) (hi : i < ws.length) : w.cell? ⟨g, i, none⟩ = some (.int .u64 ((ws.getD i 0 : Nat) : Int)) := by
  rw [blk_cell h]
  simp [hi, wv]
theorem SB.set {w : World} {g : Nat} {ws : List Nat} (h : SB w g ws) (i n : Nat) : SB (w.setCell ⟨g, i, none⟩ (.int .u64 (n : Int))) g (ws.set i n) := by
  refine blk_put h i _ ?_
  apply Array.ext'
  simp [Array.toList_setIfInBounds, List.map_set, wv]
theorem SB.drewN {w : World} {g : Nat} {ws : List Nat} (h : SB w g ws) (n : Nat) : SB (w.drewN n) g ws := h
theorem SB.drew {w : World} {g : Nat} {ws : List Nat} (h : SB w g ws) : SB w.drew g ws := h
theorem grown_put1 {w : World} {g : Nat} (i : Nat) (v : Value) : w.grownBy (w.setCell ⟨g, i, none⟩ v) (some g) :=
  ⟨rfl, rfl, rfl, by simp [World.setCell], fun k _ hk => Below.heap_setCell _ _ _ _ (fun e => hk (by simp [e]))⟩
theorem grown_put {w : World} {g : Nat} (i : Nat) (v : Value) : w.grownBy (w.setCell ⟨g, i, none⟩ v).drew (some g) :=
  (grown_put1 i v).trans (grown_of_below (pw_below_drewN (Below.refl _ _) 1) _)
theorem wrap64 (n : Int) (h0 : 0 ≤ n) (h1 : n < 1024) : IntKind.i64.wrap n = n := by
  simp [IntKind.wrap, IntKind.bits, IntKind.signed]
  omega
theorem p2cast (r : Nat) : (2 : Int) ^ r = ((2 ^ r : Nat) : Int) := by
  push_cast
  rfl
theorem shl1 (r : Nat) (h : r < 64) : (2 : Int) ^ r % 18446744073709551616 = ((2 ^ r : Nat) : Int) := by
  have h1 : 2 ^ r < 2 ^ 64 := Nat.pow_lt_pow_right (by decide) h
  have h2 : ((2 : Int) ^ r) = ((2 ^ r : Nat) : Int) := by push_cast; rfl
  rw [h2]
  exact Int.emod_eq_of_lt (Int.natCast_nonneg _) (Int.ofNat_lt.mpr h1)
theorem okW_get {ws : List Nat} (h : okW ws) (i : Nat) : ws.getD i 0 < 18446744073709551616 := by
  rw [List.getD_eq_getElem?_getD]
  cases hq : ws[i]? with
  | none => simp
  | some x => exact h.2 x (List.mem_of_getElem? hq)
theorem okW_set {ws : List Nat} (h : okW ws) (i n : Nat) (hn : n < 18446744073709551616) : okW (ws.set i n) :=
  ⟨by rw [List.length_set]; exact h.1, fun x hx => (List.mem_or_eq_of_mem_set hx).elim (h.2 x) (fun e => e ▸ hn)⟩
theorem pow64 (r : Nat) : 2 ^ (r % 64) < 18446744073709551616 := by
  have : 2 ^ (r % 64) < 2 ^ 64 := Nat.pow_lt_pow_right (by decide) (by omega)
  exact this
theorem okW_putW {ws : List Nat} (h : okW ws) (r : Nat) : okW (putW ws r) :=
  okW_set h _ _ (Nat.or_lt_two_pow (n := 64) (okW_get h _) (pow64 r))
theorem okW_dropW {ws : List Nat} (h : okW ws) (r : Nat) : okW (dropW ws r) :=
  okW_set h _ _ (Nat.lt_of_le_of_lt (Nat.and_le_left) (okW_get h _))
theorem put_calls (g r : Nat) (ws : List Nat) (w : World) (h : SB w g ws) (hw : okW ws) (hr : r < 1024) :
    Calls Try.prog 63 #[.pointer (some ⟨g, 0, none⟩), .int .i64 r] w fun e w' => e = .returned (.tuple #[]) ∧ SB w' g (putW ws r) ∧ w.grownBy w' (some g) := by
  have H := Lib.hid h
  have hc := h.cell (r / 64) (by rw [hw.1]; omega)
  have hf := blk_frozen h (r / 64)
  clear h
  have hu98 := Try.underlying98
  have hu97 := Try.underlying97
  have q1 : IntKind.i64.wrap ((r : Int) / 64) = (r : Int) / 64 := wrap64 _ (by omega) (by omega)
  have q2 : IntKind.i64.wrap ((r : Int) % 64) = (r : Int) % 64 := wrap64 _ (by omega) (by omega)
  have q3 : ((r : Int) / 64).toNat = r / 64 := by omega
  have q4 : ((r : Int) % 64).toNat = r % 64 := by omega
  have hd0 : (0 : Int) ≤ (r : Int) / 64 := by omega
  have hd1 : (r : Int) / 64 < 16 := by omega
  have hd2 : (0 : Int) ≤ (r : Int) % 64 := by omega
  have hd3 : (r : Int) % 64 < 64 := by omega
  have q5 : (r : Int).tmod 64 = (r : Int) % 64 := Int.tmod_eq_emod_of_nonneg (by omega)
  have q6 : IntKind.u64.wrap (2 ^ (r % 64)) = ((2 ^ (r % 64) : Nat) : Int) := by
    have := shl1 (r % 64) (by omega)
    rw [← this]
    simp [IntKind.wrap, IntKind.bits, IntKind.signed]
  go_enter Try.func63, Try.ntmps63
  refine wp_region_still_tail 12 (by kernel_rfl) (by kernel_rfl) ?_
  simp only [List.take_succ_cons, List.take_zero, List.drop_succ_cons, List.drop_zero]
  repeat still_step
  refine wpStill_nil ?_
  go_wp2
  refine bodyPost_end (results_none rfl _ _ _) rfl ⟨rfl, ?_⟩
  rw [p2cast, u64_or_nat _ _ (by have := okW_get hw (r / 64); rwa [List.getD_eq_getElem?_getD] at this) (pow64 r)]
  refine ⟨?_, ?_⟩
  · have := H.out.set (r / 64) ((ws.getD (r / 64) 0) ||| 2 ^ (r % 64))
    rw [List.getD_eq_getElem?_getD] at this
    simpa only [putW, List.getD_eq_getElem?_getD] using this.drew
  · exact grown_put (r / 64) _
theorem drop_calls (g r : Nat) (ws : List Nat) (w : World) (h : SB w g ws) (hw : okW ws) (hr : r < 1024) :
    Calls Try.prog 92 #[.pointer (some ⟨g, 0, none⟩), .int .i64 r] w fun e w' => e = .returned (.tuple #[]) ∧ SB w' g (dropW ws r) ∧ w.grownBy w' (some g) := by
  have H := Lib.hid h
  have hc := h.cell (r / 64) (by rw [hw.1]; omega)
  have hf := blk_frozen h (r / 64)
  clear h
  have hu98 := Try.underlying98
  have hu97 := Try.underlying97
  have q1 : IntKind.i64.wrap ((r : Int) / 64) = (r : Int) / 64 := wrap64 _ (by omega) (by omega)
  have q2 : IntKind.i64.wrap ((r : Int) % 64) = (r : Int) % 64 := wrap64 _ (by omega) (by omega)
  have q3 : ((r : Int) / 64).toNat = r / 64 := by omega
  have q4 : ((r : Int) % 64).toNat = r % 64 := by omega
  have hd0 : (0 : Int) ≤ (r : Int) / 64 := by omega
  have hd1 : (r : Int) / 64 < 16 := by omega
  have hd2 : (0 : Int) ≤ (r : Int) % 64 := by omega
  have hd3 : (r : Int) % 64 < 64 := by omega
  have q5 : (r : Int).tmod 64 = (r : Int) % 64 := Int.tmod_eq_emod_of_nonneg (by omega)
  have q6 : IntKind.u64.wrap (2 ^ (r % 64)) = ((2 ^ (r % 64) : Nat) : Int) := by
    have := shl1 (r % 64) (by omega)
    rw [← this]
    simp [IntKind.wrap, IntKind.bits, IntKind.signed]
  go_enter Try.func92, Try.ntmps92
  refine wp_region_still_tail 12 (by kernel_rfl) (by kernel_rfl) ?_
  simp only [List.take_succ_cons, List.take_zero, List.drop_succ_cons, List.drop_zero]
  repeat still_step
  refine wpStill_nil ?_
  go_wp2
  refine bodyPost_end (results_none rfl _ _ _) rfl ⟨rfl, ?_⟩
  rw [p2cast, u64_andNot_nat _ _ (by have := okW_get hw (r / 64); rwa [List.getD_eq_getElem?_getD] at this) (pow64 r)]
  refine ⟨?_, ?_⟩
  · have := H.out.set (r / 64) ((ws.getD (r / 64) 0) &&& (18446744073709551615 - 2 ^ (r % 64)))
    rw [List.getD_eq_getElem?_getD] at this
    simpa only [dropW, List.getD_eq_getElem?_getD] using this.drew
  · exact grown_put (r / 64) _
end Go.Proofs.Ytjmeignhhheckaa.H
namespace Go.Proofs.Ytjmeignhhheckaa.H
open Go.RowKit Go.Maps Go.Proofs.YtjmeignhhheckaaW.PrintWords Go.Proofs.YtjmeignhhheckaaW.PrintLast Go.Proofs.Ytjmeignhhheckaa.Q
set_option maxRecDepth 100000
def mixW (f : Nat → Nat → Nat) (a b : List Nat) : Nat → List Nat
  | 0 => a
  | n + 1 => (mixW f a b n).set n (f (a.getD n 0) (b.getD n 0))
theorem mixW_len (f : Nat → Nat → Nat) (a b : List Nat) (n : Nat) : (mixW f a b n).length = a.length := by
  induction n with
  | zero => rfl
  | succ n ih => rw [mixW, List.length_set, ih]
theorem mixW_get (f : Nat → Nat → Nat) (a b : List Nat) (n i : Nat) (h : n ≤ i) : (mixW f a b n).getD i 0 = a.getD i 0 := by
  induction n with
  | zero => rfl
  | succ n ih =>
    have := ih (by omega)
    simp only [List.getD_eq_getElem?_getD] at this ⊢
    rw [mixW, List.getElem?_set_ne (by omega), this]
theorem mixW_ok (f : Nat → Nat → Nat) (a b : List Nat) (ha : okW a) (hb : okW b) (hf : ∀ x y, x < 18446744073709551616 → y < 18446744073709551616 → f x y < 18446744073709551616) (n : Nat) : okW (mixW f a b n) := by
  induction n with
  | zero => exact ha
  | succ n ih => exact okW_set ih _ _ (hf _ _ (okW_get ha _) (okW_get hb _))
def withW (a b : List Nat) : List Nat := mixW (· ||| ·) a b 16
theorem okW_with {a b : List Nat} (ha : okW a) (hb : okW b) : okW (withW a b) := mixW_ok _ _ _ ha hb (fun _ _ hx hy => Nat.or_lt_two_pow (n := 64) hx hy) _
theorem SB.grown {w w' : World} {g : Nat} {ws : List Nat} {row : Option Nat} (h : SB w g ws) (hg : w.grownBy w' row) (hne : some g ≠ row) : SB w' g ws := blk_grown h hg hne
theorem SB.other {w : World} {g g2 : Nat} {ws : List Nat} (h : SB w g ws) (hne : g ≠ g2) (i : Nat) (v : Value) : SB (w.setCell ⟨g2, i, none⟩ v) g ws := h.grown (grown_put1 i v) (fun e => hne (Option.some.inj e))
theorem SB.lt {w : World} {g : Nat} {ws : List Nat} (h : SB w g ws) : g < w.heap.size := blk_lt h
theorem with_calls (g : Nat) (ss ts : List Nat) (w : World) (h : SB w g ss) (hs : okW ss) (ht : okW ts) :
    Calls Try.prog 91 #[.pointer (some ⟨g, 0, none⟩), .agg (ts.map wv).toArray] w fun e w' => e = .returned (.tuple #[]) ∧ SB w' g (withW ss ts) ∧ w.grownBy w' (some g) := by
  have H0 := Lib.hid (show SB (w.alloc (.cells (ts.map wv).toArray 98)) g ss from blk_alloc h _)
  have H1 := Lib.hid (show SB (w.alloc (.cells (ts.map wv).toArray 98)) w.heap.size ts from blk_new w _)
  have hgl : g ≠ w.heap.size := by have := h.lt; omega
  have HG := Lib.hid (World.grownBy_alloc w (.cells (ts.map wv).toArray 98) (some g))
  clear h
  have hu98 := Try.underlying98
  have hu97 := Try.underlying97
  go_enter Try.func91, Try.ntmps91
  go_wp2_with fail
  go_loopw [5] (fun j wr => ∃ n : Nat, n ≤ 16 ∧ j = .int .i64 n ∧ SB wr g (mixW (· ||| ·) ss ts n) ∧ SB wr w.heap.size ts ∧ w.grownBy wr (some g)) (fun j _ => 16 - (intOf j).toNat)
  case atStart => exact ⟨0, by omega, rfl, H0.out, H1.out, HG.out⟩
  case round =>
    clear H0 H1 HG
    obtain ⟨n, hn, rfl, h0, h1, hg⟩ := hrel
    have H0 := Lib.hid h0
    have H1 := Lib.hid h1
    have HG := Lib.hid hg
    have c0 := h0.cell n
    have c1 := h1.cell n
    have hf := blk_frozen h0 n
    have hf1 := blk_frozen h1 n
    rw [mixW_len, hs.1, mixW_get _ _ _ _ _ (Nat.le_refl n)] at c0
    rw [ht.1] at c1
    have hx := okW_get hs n
    have hy := okW_get ht n
    clear h0 h1 hg
    generalize hxe : ss.getD n 0 = x at *
    generalize hye : ts.getD n 0 = y at *
    by_cases hn2 : n < 16
    · have c0 := c0 hn2
      have c1 := c1 hn2
      go_wp2_with fail
      refine wp_region_still_tail 11 (by kernel_rfl) (by kernel_rfl) ?_
      simp only [List.take_succ_cons, List.take_zero, List.drop_succ_cons, List.drop_zero]
      repeat still_step
      refine wpStill_nil ?_
      go_wp2
      rw [u64_or_nat _ _ hx hy]
      refine ⟨⟨n + 1, by omega, by push_cast; rfl, ?_, (H1.out.other (fun e => hgl e.symm) n _).drew, HG.out.trans (grown_put n _)⟩, ?_⟩
      · have := (H0.out.set n (x ||| y)).drew
        simpa only [mixW, hxe, hye] using this
      · simp only [intOf]; omega
    · have : n = 16 := by omega
      subst this
      go_wp2
      refine bodyPost_end (results_none rfl _ _ _) rfl ⟨rfl, ?_, ?_⟩
      · exact H0.out
      · exact HG.out
end Go.Proofs.Ytjmeignhhheckaa.H
namespace Go.Proofs.Ytjmeignhhheckaa.H
open Go.RowKit Go.Shelf Go.Maps Go.Proofs.YtjmeignhhheckaaW.PrintWords Go.Proofs.YtjmeignhhheckaaW.PrintLast Go.Proofs.Ytjmeignhhheckaa.Q
set_option maxRecDepth 100000
attribute [local go_sem] Oper.semAt_some
/-- is a register in a set? -/
def hasW (ws : List Nat) (r : Nat) : Bool := ws.getD (r / 64) 0 / 2 ^ (r % 64) % 2 == 1
def lstTo (ws : List Nat) (k : Nat) : List Nat := (List.range k).filter (hasW ws)
theorem lstTo_succ (ws : List Nat) (k : Nat) : lstTo ws (k + 1) = lstTo ws k ++ (if hasW ws k then [k] else []) := by
  unfold lstTo
  rw [List.range_succ, List.filter_append]
  simp only [List.filter_cons, List.filter_nil]
theorem lstTo_le (ws : List Nat) (k : Nat) : (lstTo ws k).length ≤ k := by
  have := List.length_filter_le (hasW ws) (List.range k)
  simpa [lstTo] using this
theorem lstTo_prefix (ws : List Nat) (k m : Nat) (h : k ≤ m) : lstTo ws k <+: lstTo ws m := by
  induction m with
  | zero =>
    have : k = 0 := by omega
    subst this
    exact List.prefix_refl _
  | succ m ih =>
    by_cases e : k = m + 1
    · subst e
      exact List.prefix_refl _
    · rw [lstTo_succ]
      exact (ih (by omega)).trans (List.prefix_append _ _)
theorem lstTo_lt (ws : List Nat) : ∀ (k m : Nat), k < m → hasW ws k = true → (lstTo ws k).length < (lstTo ws m).length := by
  intro k m h hk
  induction m with
  | zero => omega
  | succ m ih =>
    rw [lstTo_succ, List.length_append]
    by_cases e : k = m
    · subst e
      rw [if_pos hk]
      simp
    · have := ih (by omega)
      omega
theorem wpListIn_load_row {F : Fence} {nF : Nat} {P : Program} {ops : Array Oper} {rest : List Oper} {o : Oper} {a : Act} {w : World} {Q : Exit → Act → World → Prop} (hgd : o.guard = none) (ty : TypeId) (x : Operand) (ho : o.op = .load ty x)
    (g : Nat) (hx : a.eval x = .pointer (some ⟨g, 0, none⟩)) (t : TypeId) (cs : Array Value) (fr : Nat × Nat) (d : TypeDesc) (hg : w.heap[g]? = some (.cells cs t fr))
    (hu : P.underlying ty = some d) (hd : (match d with | .struct _ | .array _ _ => true | _ => false) = true) (hi : (P.info? ty).map (·.size) = some cs.size)
    (h : wpListIn F nF P ops Q rest (a.put o.dst (.agg cs)) w) : wpListIn F nF P ops Q (o :: rest) a w := by
  refine wpListIn_plain hgd fun K' hK' => ?_
  unfold Oper.wpIn
  refine ⟨by simp [Oper.about, ho], ?_⟩
  rw [Oper.semAt_plain F _ _ (by rw [ho]; intro c hc'; cases hc')]
  unfold execOp
  simp only [ho, hx, Instr.loadAt, Instr.sureAddr, Sem.run_bind, Sem.run_pure, Result.andThen_ok, run_loadVar_row w g t ty cs fr d hg hu hd hi]
  exact hK' _ _ h
theorem bit_and (x r : Nat) (h : x < 18446744073709551616) : bits .and .u64 ((x : Int) / 2 ^ r) 1 = ((x / 2 ^ r % 2 : Nat) : Int) := by
  have h1 : (x : Int) / 2 ^ r = ((x / 2 ^ r : Nat) : Int) := by push_cast; rfl
  have h2 := u64_and_nat (x / 2 ^ r) 1 (Nat.lt_of_le_of_lt (Nat.div_le_self _ _) h) (by decide)
  rw [h1]
  exact h2.trans (by rw [nat_mask1])
theorem info96 : (Try.prog.info? 96).map (·.size) = some 1 := by kernel_rfl
theorem index98 (G : Array Value) (i : Nat) (x : Int) (h : G[i]? = some (.int .u64 x)) (hi : i < 16) (w : World) : (Instr.index 98 (.agg G) (.int .i64 i)).run Try.prog w = .ok (.int .u64 x) w := by
  have hu98 := Try.underlying98
  have hu96 := Try.underlying96
  unfold Instr.index
  rw [Sem.run_bind]
  have h1 : (asIntOf (.int .i64 (i : Int))).run Try.prog w = .ok (.i64, (i : Int)) w := rfl
  rw [h1]
  simp only [Result.andThen_ok, Sem.run_bind, run_underlying hu98]
  rw [if_pos (by omega)]
  cases hq : Try.prog.info? 96 with
  | none => have := info96; simp [hq] at this
  | some f =>
    have hs : f.size = 1 := by have := info96; simpa [hq] using this
    simp [sizeOf, typeInfo, hq, hs, part, isAgg, Sem.run_bind, run_underlying hu96, h]
theorem size98 : (Try.prog.info? 98).map (·.size) = some 16 := by kernel_rfl
set_option maxHeartbeats 2000000 in
theorem all1_in (F : Fence) (n : Nat) (hf : F.fn 110) (hro : F.round = none) (hn : 1 ≤ n) (l Bn n₀ : Nat) (ws : List Nat) (hw : okW ws) (J Jx : List Nat → World → Prop)
    (hY : ∀ pre x W, J pre W → pre.length < (lstTo ws 1024).length → YieldAt F (n - 1) Try.prog l #[.int .i64 (x : Nat)] W fun e W' =>
      (e = .returned (.bool true) ∧ J (pre ++ [x]) W' ∧ Below n₀ W W') ∨ (e = .returned (.bool false) ∧ Jx (pre ++ [x]) W'))
    (W : World) (hBn : SB W Bn ws) (h0 : J [] W) :
    CallsIn F n Try.prog 110 #[.func (.yield l) #[] #[], .pointer (some ⟨Bn, 0, none⟩)] W fun e W' => (∃ v, e = .returned v) ∧
      ((∃ ys, ys = lstTo ws 1024 ∧ J ys W') ∨ (∃ pre, pre <+: lstTo ws 1024 ∧ Jx pre W')) := by
  have hu98 := Try.underlying98
  refine callsIn_of_wp Try.func110 rfl hf ?_ hro
  simp only [Try.ntmps110, List.size_toArray, List.length_cons, List.length_nil, Nat.reduceAdd, Nat.reduceSub, Array.replicate_succ, Array.replicate_zero, List.push_toArray, List.append_toArray, List.nil_append, List.cons_append]
  gi_step
  gi_step
  gi_step
  refine wpListIn_load_row rfl 98 (.tmp 1) rfl Bn rfl 98 (ws.map wv).toArray (0, 0) (.array 16 96) hBn Try.underlying98 rfl (by rw [size98]; simp [hw.1]) ?_
  gi_wp2
  gi_loopw [7] (fun j wr => ∃ i : Nat, i ≤ 16 ∧ j = .int .i64 i ∧ J (lstTo ws (64 * i)) wr) (fun j _ => 16 - (intOf j).toNat)
  case atStart => exact ⟨0, by omega, rfl, h0⟩
  case round =>
    obtain ⟨i, hi, rfl, hJi⟩ := hrel
    by_cases hi2 : i < 16
    · have hxl := okW_get hw i
      have hget : (ws.map wv).toArray[i]? = some (.int .u64 ((ws.getD i 0 : Nat) : Int)) := by
        simp [wv, hw.1, hi2]
      generalize hxe : ws.getD i 0 = x at hget hxl
      have hsz : (ws.map wv).toArray.size = 16 := by simp [hw.1]
      generalize (ws.map wv).toArray = G at *
      have hix := index98 G i _ hget hi2
      gi_wp2
      clear hix hget hsz
      obtain ⟨wo, rfl⟩ : ∃ wo : World, wo = wr := ⟨_, rfl⟩
      have hd16 : decide ((i : Int) < 16) = true := by simp; omega
      simp only [hd16]
      gi_loopw [11] (fun j wr => ∃ r : Nat, r ≤ 64 ∧ j = .int .i64 r ∧ J (lstTo ws (64 * i + r)) wr) (fun j _ => 64 - (intOf j).toNat)
      case atStart => exact ⟨0, by omega, rfl, hJi⟩
      case round =>
        obtain ⟨r, hr, rfl, hJr⟩ := hrel
        by_cases hr2 : r < 64
        · have hdv : (64 * i + r) / 64 = i := by omega
          have hmd : (64 * i + r) % 64 = r := by omega
          have hwr := wrap64 ((64 : Int) * i + r) (by omega) (by omega)
          have hwr1 := wrap64 ((64 : Int) * i) (by omega) (by omega)
          by_cases hbt : x / 2 ^ r % 2 = 1
          · have hh : hasW ws (64 * i + r) = true := by unfold hasW; rw [hdv, hmd, hxe, hbt]; rfl
            have hlt := lstTo_lt ws (64 * i + r) 1024 (by omega) hh
            have hnx := lstTo_succ ws (64 * i + r)
            rw [hh, if_pos rfl] at hnx
            have hba := bit_and x r hxl
            rw [hbt] at hba
            have hYx := hY _ (64 * i + r) wr hJr hlt
            rw [show ((64 * i + r : Nat) : Int) = 64 * (i : Int) + (r : Int) from by push_cast; rfl] at hYx
            obtain ⟨fn, tmps, assign, body, hy, hR⟩ := hYx
            gi_wp2
            refine hR.mono ?_
            rintro e W3 (⟨rfl, hJ3, hk3⟩ | ⟨rfl, hJx3⟩)
            · clear hR hy
              gi_wp2
              go_roundw
              case rel => exact ⟨r + 1, by omega, by push_cast; rfl, by rw [show 64 * i + (r + 1) = 64 * i + r + 1 from by omega, hnx]; exact hJ3⟩
              case measure => simp only [intOf]; omega
            · clear hR hy
              gi_wp2
              refine bodyPost_ret (results_none rfl _ _ _) rfl ?_
              refine ⟨⟨_, rfl⟩, .inr ⟨_, ?_, hJx3⟩⟩
              rw [← hnx]
              exact lstTo_prefix ws _ _ (by omega)
          · have hh : hasW ws (64 * i + r) = false := by unfold hasW; rw [hdv, hmd, hxe]; simp [hbt]
            have hnx := lstTo_succ ws (64 * i + r)
            rw [hh, if_neg (by decide), List.append_nil] at hnx
            have hba := bit_and x r hxl
            rw [show x / 2 ^ r % 2 = 0 from by omega] at hba
            gi_wp2
            refine ⟨fun _ h => (by cases h), ?_⟩
            gi_wp2
            go_roundw
            case rel => exact ⟨r + 1, by omega, by push_cast; rfl, by rw [show 64 * i + (r + 1) = 64 * i + r + 1 from by omega, hnx]; exact hJr⟩
            case measure => simp only [intOf]; omega
        · have : r = 64 := by omega
          subst this
          gi_wp2
          go_roundw
          case rel => exact ⟨i + 1, by omega, by push_cast; rfl, by rw [show 64 * (i + 1) = 64 * i + 64 from by omega]; exact hJr⟩
          case measure => simp only [intOf]; omega
    · have : i = 16 := by omega
      subst this
      gi_wp2
      go_end0
      exact ⟨⟨_, rfl⟩, .inl ⟨_, rfl, hJi⟩⟩
end Go.Proofs.Ytjmeignhhheckaa.H
namespace Go.Proofs.Ytjmeignhhheckaa.H
open Go.RowKit Go.Shelf Go.Maps Go.Proofs.YtjmeignhhheckaaW.PrintWords Go.Proofs.YtjmeignhhheckaaW.PrintLast Go.Proofs.Ytjmeignhhheckaa.Q
set_option maxRecDepth 100000
attribute [local go_sem] Oper.semAt_some
theorem all_in (F : Fence) (n : Nat) (hf : F.fn 90) (hro : F.round = none) (ws : List Nat) (w : World) :
    CallsIn F n Try.prog 90 #[.agg (ws.map wv).toArray] w fun e w' => e = .returned (.func (.func 110) #[] #[.pointer (some ⟨w.heap.size, 0, none⟩)]) ∧ w' = w.alloc (.cells (ws.map wv).toArray 98) := by
  refine callsIn_of_wp Try.func90 rfl hf ?_ hro
  simp only [Try.ntmps90, List.size_toArray, List.length_cons, List.length_nil, Nat.reduceAdd, Nat.reduceSub, Array.replicate_succ, Array.replicate_zero, List.push_toArray, List.append_toArray, List.nil_append, List.cons_append]
  gi_wp2
  go_ret
  exact ⟨rfl, rfl⟩
theorem all_stops (F : Fence) (n : Nat) (hf : F.fn 110) (hro : F.round = none) (hn : 1 ≤ n) (Bn n₀ : Nat) (ws : List Nat) (hw : okW ws) (w : World) (hBn : Bn < w.heap.size) (hc : SB w Bn ws) :
    SeqStopsK F n Try.prog 110 #[.pointer (some ⟨Bn, 0, none⟩)] (fun x : Nat => #[Value.int .i64 x]) (Below n₀) (fun ys => ys = lstTo ws 1024) (fun pre => pre <+: lstTo ws 1024) (lstTo ws 1024).length w := fun l J Jx W hW _ _ hY h0 =>
  all1_in F n hf hro hn l Bn n₀ ws hw J Jx hY W ((hW.block _ hBn).trans hc) h0
def iv (x : Nat) : Value := .int .i64 x
set_option maxHeartbeats 2000000 in
theorem list_in (F : Fence) (n : Nat) (h3 : F.fn 58) (h4 : F.fn 90) (h5 : F.fn 110) (hro : F.round = none) (hn : 3 ≤ n) (ws : List Nat) (hw : okW ws) (w : World) :
    CallsIn F n Try.prog 58 #[.agg (ws.map wv).toArray] w fun e W' => ∃ v, e = .returned v ∧ W'.ownsRow w.heap.size 3 1 v (lstTo ws 1024).length ((lstTo ws 1024).map iv) ∧ Below w.heap.size w W' := by
  have h1 : 1 ≤ n := by omega
  obtain ⟨i0, hi, hz0, hz1, hz2⟩ := info_parts (show (Try.prog.info? 3).map (fun i => (i.zero, i.size, i.bytes)) = some (some (.int .i64 0), 1, 8) from by kernel_rfl)
  refine callsIn_of_wp_marks Try.func58 rfl h3 ?_ hro
  simp only [Try.ntmps58, List.size_toArray, List.length_cons, List.length_nil, Nat.reduceAdd, Nat.reduceSub, Array.replicate_succ, Array.replicate_zero, List.push_toArray, List.append_toArray, List.nil_append, List.cons_append]
  have HSB : SB ((w.alloc (.cells (ws.map wv).toArray 98)).alloc (.cells #[.slice none 0 0] 37)) w.heap.size ws := blk_alloc (blk_new w _) _
  gi_upto_region 2 with fail
  gi_step
  refine wpListIn_load_row rfl 98 (.tmp 1) rfl w.heap.size rfl 98 (ws.map wv).toArray (0, 0) (.array 16 96) HSB Try.underlying98 rfl (by rw [size98]; simp [hw.1]) ?_
  gi_wp2_with (gi_at_call 90; refine (all_in F (n - 1) h4 hro _ _).mono ?_; rintro e w' ⟨rfl, rfl⟩)
  have bO := (Boxed.new (w.alloc (.cells (ws.map wv).toArray 98)) 37 (.slice none 0 0)).alloc (.cells (ws.map wv).toArray 98)
  have bN : SB (((w.alloc (.cells (ws.map wv).toArray 98)).alloc (.cells #[.slice none 0 0] 37)).alloc (.cells (ws.map wv).toArray 98)) (w.heap.size + 2) ws := by
    have := blk_new ((w.alloc (.cells (ws.map wv).toArray 98)).alloc (.cells #[.slice none 0 0] 37)) (.cells (ws.map wv).toArray 98)
    rwa [show ((w.alloc (.cells (ws.map wv).toArray 98)).alloc (.cells #[.slice none 0 0] 37)).heap.size = w.heap.size + 2 from by simp] at this
  rw [World.size_alloc] at bO
  have hB0 : Below w.heap.size w (((w.alloc (.cells (ws.map wv).toArray 98)).alloc (.cells #[.slice none 0 0] 37)).alloc (.cells (ws.map wv).toArray 98)) := (((Below.refl _ w).alloc (Nat.le_refl _) _).alloc (by simp) _).alloc (by simp; omega) _
  generalize (ws.map wv).toArray = G at *
  have hll := lstTo_le ws 1024
  refine wpIn_rangeFunc_ownG hro h1 (gf := 110) (lb := #[.pointer (some ⟨w.heap.size + 2, 0, none⟩)]) rfl h5 (enters_of Try.func110 (by kernel_rfl) rfl)
    (all_stops F (n - 1) h5 hro (by omega) (w.heap.size + 2) w.heap.size ws hw _ (by simp) bN) belowK_t (belowK_b (by simp; omega)) (Below.refl _ _) (fun _ => rfl)
    (fun pre W => (∃ v, Boxed W (w.heap.size + 1) 37 v ∧ W.ownsRow w.heap.size 3 1 v pre.length (pre.map iv) ∧ (v = .slice none 0 0 ↔ pre = [])) ∧ Below w.heap.size w W)
    (fun _ _ _ => False)
    (OwnFrom.and (Own.from (holdsRow_own w.heap.size (w.heap.size + 1) 37 3 1 (fun pre : List Nat => pre.length) (fun pre => pre.map iv) (fun pre v => v = .slice none 0 0 ↔ pre = [])) _) (ownFrom_below (Nat.le_refl _) (by simp; omega)))
    (fun _ _ _ _ _ hs _ _ => hs)
    ⟨⟨_, bO, World.ownsRow_nil _ _ _ _, by simp⟩, hB0⟩
    (fun x => { tmps := #[.agg G, .pointer (some ⟨w.heap.size, 0, none⟩), .slice none 0 0, .pointer (some ⟨w.heap.size + 1, 0, none⟩), .int .i64 x, .agg G, .func (.func 110) #[] #[.pointer (some ⟨w.heap.size + 2, 0, none⟩)], .int .i64 x, undef, undef, undef, undef, undef], defers := [] }) ?assign ?body ?done ?stop
  case assign =>
    intro l x W K hK
    gi_wp2
    exact hK
  case body =>
    rintro l pre x W ⟨⟨v, hv, hrow, hnil⟩, hB⟩ hlt
    have hc := hv.cell
    gi_wp2_with (gi_at_builtin; refine wpListIn_append_own _ rfl _ _ 37 rfl w.heap.size 3 i0 (.int .i64 0) 1 8 Try.underlying37 hi hz0 hz1 hz2 rfl (by decide) _ _ _ rfl (hrow.alloc _) ⟨W.heap.size, 0, none⟩ 1 1 [.int .i64 x] rfl rfl (cell_one_new _ _ _) (by simp [Value.oneCell']) (by unfold maxLen; omega) (by omega) (by have := hB.size; simp; omega) ?_; intro v' w1 hown' hgrow _; obtain ⟨g', cap', rfl⟩ := ownsRow_succ hown'; obtain ⟨hv1, hv2, hr2, hk2, hb2⟩ := hv.appended (by decide) hrow hB.size (by omega) hown' hgrow; have hc1 := hv1.cell; have hf1 := hv1.frozen)
    exact ⟨hk2.from _, hb2, ⟨_, hv2, by simpa [iv] using hr2, by simp⟩, hB.trans hb2⟩
  case done =>
    rintro D ys W hD rfl ⟨⟨v, hv, hrow, hnil⟩, hB⟩ hK
    have hc := hv.cell
    gi_wp2
    refine ⟨by simp, .inl ⟨_, _, rfl, run_takeDeferred hK, ?_⟩⟩
    exact ⟨_, results_tmp rfl _ _ _, v, rfl, ownsRow_putObj hrow _ hK rfl, hB.trans (belowK_b (w := w) (Nat.le_refl _) W D _ _ (by simp at hD; omega) hK rfl rfl)⟩
  case stop =>
    rintro D c pre W _ _ h _
    exact h.elim
def listS (ws : List Nat) : List Int := (lstTo ws 1024).map fun x : Nat => (x : Int)
theorem list_calls (ws : List Nat) (hw : okW ws) (w : World) :
    Calls Try.prog 58 #[.agg (ws.map wv).toArray] w fun e W' => ∃ v, e = .returned v ∧ Kd.R (Kd.int .i64) 3 W' w.heap.size (fun _ => True) v (listS ws) ∧ Below w.heap.size w W' := by
  refine (callsIn_wide (n := 3)).1 ?_
  refine (list_in Fence.wide 3 trivial trivial trivial rfl (by omega) ws hw w).mono ?_
  rintro e W' ⟨v, rfl, hr, hb⟩
  refine ⟨v, rfl, Kd.R_of_own ?_ (fun _ _ => trivial), hb⟩
  rw [listS, List.length_map]
  have : encs (fun x : Int => Value.int .i64 x) ((lstTo ws 1024).map fun x : Nat => (x : Int)) = (lstTo ws 1024).map iv := by
    simp [encs, iv]
  rw [this]
  exact hr
end Go.Proofs.Ytjmeignhhheckaa.H
namespace Go.Proofs.Ytjmeignhhheckaa.Q
open Go.RowKit Go.Proofs.YtjmeignhhheckaaW.PrintWords Go.Proofs.YtjmeignhhheckaaW.PrintLast Go.Proofs.YtjmeignhhheckaaW.PrintMore
attribute [local go_sem] max2_int min2_int max_two min_two max_three min_three max_four min_four   -- for this text's walks alone
set_option linter.unusedVariables false
set_option linter.unusedSimpArgs false
def paths_Changes.f (a0_0 : Int) (a0_1 : Int) (a0_2 : Int) (a0_3 : Int) (a0_4 : Int) (a0_5 : Int) : Option (Int × Bool) := if a0_0 = 1 then (some (a0_2, true)) else (if a0_0 = 2 then (some (a0_2, true)) else (if a0_0 = 3 then (some (a0_2, true)) else (if a0_0 = 6 then (some (a0_2, true)) else (if a0_0 = 7 then (some (a0_2, true)) else (if a0_0 = 8 then (some (a0_2, true)) else (if a0_0 = 10 then (some (a0_2, true)) else (some (0, false))))))))
set_option maxHeartbeats 8000000 in
set_option maxRecDepth 100000 in
theorem paths_Changes.calls (a0_0 : Int) (a0_1 : Int) (a0_2 : Int) (a0_3 : Int) (a0_4 : Int) (a0_5 : Int) (r1 : Int) (r2 : Bool) (w : World) (h : paths_Changes.f a0_0 a0_1 a0_2 a0_3 a0_4 a0_5 = some (r1, r2)) :
    Calls Try.prog 62 #[.agg #[.int .u8 a0_0, .int .u8 a0_1, .int .i64 a0_2, .int .i64 a0_3, .int .i64 a0_4, .int .i64 a0_5]] w fun e w' => e = .returned (.tuple #[.int .i64 r1, .bool r2]) ∧ Below w.heap.size w w' := by
  have hu46 := Try.underlying46
  have HB := Aside0.mk (Below.refl w.heap.size w)
  have H : (if a0_0 = 1 then (some (a0_2, true)) else (if a0_0 = 2 then (some (a0_2, true)) else (if a0_0 = 3 then (some (a0_2, true)) else (if a0_0 = 6 then (some (a0_2, true)) else (if a0_0 = 7 then (some (a0_2, true)) else (if a0_0 = 8 then (some (a0_2, true)) else (if a0_0 = 10 then (some (a0_2, true)) else (some (0, false))))))))) = some (r1, r2) := h
  clear h
  by_cases c2 : a0_0 = 1
  · rw [if_pos c2] at H
    have c2b0 : (a0_0 == 1) = true := beq_iff_eq.mpr c2
    have c2b1 : (a0_0 != 1) = false := bne_eq_false_iff_eq.mpr c2
    clear c2
    simp only [Option.some.injEq, Prod.mk.injEq] at H
    obtain ⟨rfl, rfl⟩ := H
    go_enter Try.func62, Try.ntmps62
    go_wp2_with (first | ((with_reducible refine gate_dst (N := 1) rfl ?_); refine box_event ?hg (N := 1) ?hd (cs := #[.int .u8 a0_0, .int .u8 a0_1, .int .i64 a0_2, .int .i64 a0_3, .int .i64 a0_4, .int .i64 a0_5]) (t := 46) ?hr ?_; (case hd => rfl); (case hg => rfl); (case hr => first | (go_simp; done) | (go_simp; rfl)); intro gb149 hg w3 hbox hb; have n0_ := Aside0.mk (below_step (by repeat (first | (with_reducible first | exact HB.out | apply below_alloc | apply pw_below_drewN | apply below_drew1) | exact HB.out)) hb); have n1_ := Aside0.mk (hbox); have n2_ := Aside0.mk ((by rw [hg]; exact (below_size (by repeat (first | (with_reducible first | exact HB.out | apply below_alloc | apply pw_below_drewN | apply below_drew1) | exact HB.out))) : w.heap.size ≤ gb149)); have n3_ := Aside0.mk ((by rw [hg]; exact (below_size (by repeat (first | (with_reducible first | exact HB.out | apply below_alloc | apply pw_below_drewN | apply below_drew1) | exact HB.out))) : w.heap.size ≤ gb149)); clear HB; have HB := n0_; have BK149 := n1_; have GW149 := n2_; have GE149 := n3_; clear n0_ n1_ n2_ n3_; clear hb hbox hg; have hcz4_0 : w3.cell? ⟨gb149, 0, none⟩ = some (.int .u8 a0_0) := (blk_cell BK149.out 0).trans rfl; have hcz4_1 : w3.cell? ⟨gb149, 1, none⟩ = some (.int .u8 a0_1) := (blk_cell BK149.out 1).trans rfl; have hcz4_2 : w3.cell? ⟨gb149, 2, none⟩ = some (.int .i64 a0_2) := (blk_cell BK149.out 2).trans rfl; have hcz4_3 : w3.cell? ⟨gb149, 3, none⟩ = some (.int .i64 a0_3) := (blk_cell BK149.out 3).trans rfl; have hcz4_4 : w3.cell? ⟨gb149, 4, none⟩ = some (.int .i64 a0_4) := (blk_cell BK149.out 4).trans rfl; have hcz4_5 : w3.cell? ⟨gb149, 5, none⟩ = some (.int .i64 a0_5) := (blk_cell BK149.out 5).trans rfl; have hfz4_0 := blk_frozen BK149.out 0; have hfz4_1 := blk_frozen BK149.out 1; have hfz4_2 := blk_frozen BK149.out 2; have hfz4_3 := blk_frozen BK149.out 3; have hfz4_4 := blk_frozen BK149.out 4; have hfz4_5 := blk_frozen BK149.out 5))
    go_ret2
    exact ⟨by first | rfl | (simp [errW_none, errW_some] <;> rfl) | (simp [*, errW_none, errW_some] <;> rfl), by repeat (first | (with_reducible first | exact HB.out | apply below_alloc | apply pw_below_drewN | apply below_drew1 | refine below_set ?_ GE149.out) | exact HB.out)⟩
  · rw [if_neg c2] at H
    have c2b0 : (a0_0 == 1) = false := beq_eq_false_iff_ne.mpr c2
    have c2b1 : (a0_0 != 1) = true := bne_iff_ne.mpr c2
    by_cases c5 : a0_0 = 2
    · rw [if_pos c5] at H
      have c5b0 : (a0_0 == 2) = true := beq_iff_eq.mpr c5
      have c5b1 : (a0_0 != 2) = false := bne_eq_false_iff_eq.mpr c5
      clear c5
      simp only [Option.some.injEq, Prod.mk.injEq] at H
      obtain ⟨rfl, rfl⟩ := H
      go_enter Try.func62, Try.ntmps62
      go_wp2_with (first | ((with_reducible refine gate_dst (N := 1) rfl ?_); refine box_event ?hg (N := 1) ?hd (cs := #[.int .u8 a0_0, .int .u8 a0_1, .int .i64 a0_2, .int .i64 a0_3, .int .i64 a0_4, .int .i64 a0_5]) (t := 46) ?hr ?_; (case hd => rfl); (case hg => rfl); (case hr => first | (go_simp; done) | (go_simp; rfl)); intro gb149 hg w6 hbox hb; have n0_ := Aside0.mk (below_step (by repeat (first | (with_reducible first | exact HB.out | apply below_alloc | apply pw_below_drewN | apply below_drew1) | exact HB.out)) hb); have n1_ := Aside0.mk (hbox); have n2_ := Aside0.mk ((by rw [hg]; exact (below_size (by repeat (first | (with_reducible first | exact HB.out | apply below_alloc | apply pw_below_drewN | apply below_drew1) | exact HB.out))) : w.heap.size ≤ gb149)); have n3_ := Aside0.mk ((by rw [hg]; exact (below_size (by repeat (first | (with_reducible first | exact HB.out | apply below_alloc | apply pw_below_drewN | apply below_drew1) | exact HB.out))) : w.heap.size ≤ gb149)); clear HB; have HB := n0_; have BK149 := n1_; have GW149 := n2_; have GE149 := n3_; clear n0_ n1_ n2_ n3_; clear hb hbox hg; have hcz7_0 : w6.cell? ⟨gb149, 0, none⟩ = some (.int .u8 a0_0) := (blk_cell BK149.out 0).trans rfl; have hcz7_1 : w6.cell? ⟨gb149, 1, none⟩ = some (.int .u8 a0_1) := (blk_cell BK149.out 1).trans rfl; have hcz7_2 : w6.cell? ⟨gb149, 2, none⟩ = some (.int .i64 a0_2) := (blk_cell BK149.out 2).trans rfl; have hcz7_3 : w6.cell? ⟨gb149, 3, none⟩ = some (.int .i64 a0_3) := (blk_cell BK149.out 3).trans rfl; have hcz7_4 : w6.cell? ⟨gb149, 4, none⟩ = some (.int .i64 a0_4) := (blk_cell BK149.out 4).trans rfl; have hcz7_5 : w6.cell? ⟨gb149, 5, none⟩ = some (.int .i64 a0_5) := (blk_cell BK149.out 5).trans rfl; have hfz7_0 := blk_frozen BK149.out 0; have hfz7_1 := blk_frozen BK149.out 1; have hfz7_2 := blk_frozen BK149.out 2; have hfz7_3 := blk_frozen BK149.out 3; have hfz7_4 := blk_frozen BK149.out 4; have hfz7_5 := blk_frozen BK149.out 5))
      go_ret2
      exact ⟨by first | rfl | (simp [errW_none, errW_some] <;> rfl) | (simp [*, errW_none, errW_some] <;> rfl), by repeat (first | (with_reducible first | exact HB.out | apply below_alloc | apply pw_below_drewN | apply below_drew1 | refine below_set ?_ GE149.out) | exact HB.out)⟩
    · rw [if_neg c5] at H
      have c5b0 : (a0_0 == 2) = false := beq_eq_false_iff_ne.mpr c5
      have c5b1 : (a0_0 != 2) = true := bne_iff_ne.mpr c5
      by_cases c8 : a0_0 = 3
      · rw [if_pos c8] at H
        have c8b0 : (a0_0 == 3) = true := beq_iff_eq.mpr c8
        have c8b1 : (a0_0 != 3) = false := bne_eq_false_iff_eq.mpr c8
        clear c8
        simp only [Option.some.injEq, Prod.mk.injEq] at H
        obtain ⟨rfl, rfl⟩ := H
        go_enter Try.func62, Try.ntmps62
        go_wp2_with (first | ((with_reducible refine gate_dst (N := 1) rfl ?_); refine box_event ?hg (N := 1) ?hd (cs := #[.int .u8 a0_0, .int .u8 a0_1, .int .i64 a0_2, .int .i64 a0_3, .int .i64 a0_4, .int .i64 a0_5]) (t := 46) ?hr ?_; (case hd => rfl); (case hg => rfl); (case hr => first | (go_simp; done) | (go_simp; rfl)); intro gb149 hg w9 hbox hb; have n0_ := Aside0.mk (below_step (by repeat (first | (with_reducible first | exact HB.out | apply below_alloc | apply pw_below_drewN | apply below_drew1) | exact HB.out)) hb); have n1_ := Aside0.mk (hbox); have n2_ := Aside0.mk ((by rw [hg]; exact (below_size (by repeat (first | (with_reducible first | exact HB.out | apply below_alloc | apply pw_below_drewN | apply below_drew1) | exact HB.out))) : w.heap.size ≤ gb149)); have n3_ := Aside0.mk ((by rw [hg]; exact (below_size (by repeat (first | (with_reducible first | exact HB.out | apply below_alloc | apply pw_below_drewN | apply below_drew1) | exact HB.out))) : w.heap.size ≤ gb149)); clear HB; have HB := n0_; have BK149 := n1_; have GW149 := n2_; have GE149 := n3_; clear n0_ n1_ n2_ n3_; clear hb hbox hg; have hcz10_0 : w9.cell? ⟨gb149, 0, none⟩ = some (.int .u8 a0_0) := (blk_cell BK149.out 0).trans rfl; have hcz10_1 : w9.cell? ⟨gb149, 1, none⟩ = some (.int .u8 a0_1) := (blk_cell BK149.out 1).trans rfl; have hcz10_2 : w9.cell? ⟨gb149, 2, none⟩ = some (.int .i64 a0_2) := (blk_cell BK149.out 2).trans rfl; have hcz10_3 : w9.cell? ⟨gb149, 3, none⟩ = some (.int .i64 a0_3) := (blk_cell BK149.out 3).trans rfl; have hcz10_4 : w9.cell? ⟨gb149, 4, none⟩ = some (.int .i64 a0_4) := (blk_cell BK149.out 4).trans rfl; have hcz10_5 : w9.cell? ⟨gb149, 5, none⟩ = some (.int .i64 a0_5) := (blk_cell BK149.out 5).trans rfl; have hfz10_0 := blk_frozen BK149.out 0; have hfz10_1 := blk_frozen BK149.out 1; have hfz10_2 := blk_frozen BK149.out 2; have hfz10_3 := blk_frozen BK149.out 3; have hfz10_4 := blk_frozen BK149.out 4; have hfz10_5 := blk_frozen BK149.out 5))
        go_ret2
        exact ⟨by first | rfl | (simp [errW_none, errW_some] <;> rfl) | (simp [*, errW_none, errW_some] <;> rfl), by repeat (first | (with_reducible first | exact HB.out | apply below_alloc | apply pw_below_drewN | apply below_drew1 | refine below_set ?_ GE149.out) | exact HB.out)⟩
      · rw [if_neg c8] at H
        have c8b0 : (a0_0 == 3) = false := beq_eq_false_iff_ne.mpr c8
        have c8b1 : (a0_0 != 3) = true := bne_iff_ne.mpr c8
        by_cases c11 : a0_0 = 6
        · rw [if_pos c11] at H
          have c11b0 : (a0_0 == 6) = true := beq_iff_eq.mpr c11
          have c11b1 : (a0_0 != 6) = false := bne_eq_false_iff_eq.mpr c11
          clear c11
          simp only [Option.some.injEq, Prod.mk.injEq] at H
          obtain ⟨rfl, rfl⟩ := H
          go_enter Try.func62, Try.ntmps62
          go_wp2_with (first | ((with_reducible refine gate_dst (N := 1) rfl ?_); refine box_event ?hg (N := 1) ?hd (cs := #[.int .u8 a0_0, .int .u8 a0_1, .int .i64 a0_2, .int .i64 a0_3, .int .i64 a0_4, .int .i64 a0_5]) (t := 46) ?hr ?_; (case hd => rfl); (case hg => rfl); (case hr => first | (go_simp; done) | (go_simp; rfl)); intro gb149 hg w12 hbox hb; have n0_ := Aside0.mk (below_step (by repeat (first | (with_reducible first | exact HB.out | apply below_alloc | apply pw_below_drewN | apply below_drew1) | exact HB.out)) hb); have n1_ := Aside0.mk (hbox); have n2_ := Aside0.mk ((by rw [hg]; exact (below_size (by repeat (first | (with_reducible first | exact HB.out | apply below_alloc | apply pw_below_drewN | apply below_drew1) | exact HB.out))) : w.heap.size ≤ gb149)); have n3_ := Aside0.mk ((by rw [hg]; exact (below_size (by repeat (first | (with_reducible first | exact HB.out | apply below_alloc | apply pw_below_drewN | apply below_drew1) | exact HB.out))) : w.heap.size ≤ gb149)); clear HB; have HB := n0_; have BK149 := n1_; have GW149 := n2_; have GE149 := n3_; clear n0_ n1_ n2_ n3_; clear hb hbox hg; have hcz13_0 : w12.cell? ⟨gb149, 0, none⟩ = some (.int .u8 a0_0) := (blk_cell BK149.out 0).trans rfl; have hcz13_1 : w12.cell? ⟨gb149, 1, none⟩ = some (.int .u8 a0_1) := (blk_cell BK149.out 1).trans rfl; have hcz13_2 : w12.cell? ⟨gb149, 2, none⟩ = some (.int .i64 a0_2) := (blk_cell BK149.out 2).trans rfl; have hcz13_3 : w12.cell? ⟨gb149, 3, none⟩ = some (.int .i64 a0_3) := (blk_cell BK149.out 3).trans rfl; have hcz13_4 : w12.cell? ⟨gb149, 4, none⟩ = some (.int .i64 a0_4) := (blk_cell BK149.out 4).trans rfl; have hcz13_5 : w12.cell? ⟨gb149, 5, none⟩ = some (.int .i64 a0_5) := (blk_cell BK149.out 5).trans rfl; have hfz13_0 := blk_frozen BK149.out 0; have hfz13_1 := blk_frozen BK149.out 1; have hfz13_2 := blk_frozen BK149.out 2; have hfz13_3 := blk_frozen BK149.out 3; have hfz13_4 := blk_frozen BK149.out 4; have hfz13_5 := blk_frozen BK149.out 5))
          go_ret2
          exact ⟨by first | rfl | (simp [errW_none, errW_some] <;> rfl) | (simp [*, errW_none, errW_some] <;> rfl), by repeat (first | (with_reducible first | exact HB.out | apply below_alloc | apply pw_below_drewN | apply below_drew1 | refine below_set ?_ GE149.out) | exact HB.out)⟩
        · rw [if_neg c11] at H
          have c11b0 : (a0_0 == 6) = false := beq_eq_false_iff_ne.mpr c11
          have c11b1 : (a0_0 != 6) = true := bne_iff_ne.mpr c11
          by_cases c14 : a0_0 = 7
          · rw [if_pos c14] at H
            have c14b0 : (a0_0 == 7) = true := beq_iff_eq.mpr c14
            have c14b1 : (a0_0 != 7) = false := bne_eq_false_iff_eq.mpr c14
            clear c14
            simp only [Option.some.injEq, Prod.mk.injEq] at H
            obtain ⟨rfl, rfl⟩ := H
            go_enter Try.func62, Try.ntmps62
            go_wp2_with (first | ((with_reducible refine gate_dst (N := 1) rfl ?_); refine box_event ?hg (N := 1) ?hd (cs := #[.int .u8 a0_0, .int .u8 a0_1, .int .i64 a0_2, .int .i64 a0_3, .int .i64 a0_4, .int .i64 a0_5]) (t := 46) ?hr ?_; (case hd => rfl); (case hg => rfl); (case hr => first | (go_simp; done) | (go_simp; rfl)); intro gb149 hg w15 hbox hb; have n0_ := Aside0.mk (below_step (by repeat (first | (with_reducible first | exact HB.out | apply below_alloc | apply pw_below_drewN | apply below_drew1) | exact HB.out)) hb); have n1_ := Aside0.mk (hbox); have n2_ := Aside0.mk ((by rw [hg]; exact (below_size (by repeat (first | (with_reducible first | exact HB.out | apply below_alloc | apply pw_below_drewN | apply below_drew1) | exact HB.out))) : w.heap.size ≤ gb149)); have n3_ := Aside0.mk ((by rw [hg]; exact (below_size (by repeat (first | (with_reducible first | exact HB.out | apply below_alloc | apply pw_below_drewN | apply below_drew1) | exact HB.out))) : w.heap.size ≤ gb149)); clear HB; have HB := n0_; have BK149 := n1_; have GW149 := n2_; have GE149 := n3_; clear n0_ n1_ n2_ n3_; clear hb hbox hg; have hcz16_0 : w15.cell? ⟨gb149, 0, none⟩ = some (.int .u8 a0_0) := (blk_cell BK149.out 0).trans rfl; have hcz16_1 : w15.cell? ⟨gb149, 1, none⟩ = some (.int .u8 a0_1) := (blk_cell BK149.out 1).trans rfl; have hcz16_2 : w15.cell? ⟨gb149, 2, none⟩ = some (.int .i64 a0_2) := (blk_cell BK149.out 2).trans rfl; have hcz16_3 : w15.cell? ⟨gb149, 3, none⟩ = some (.int .i64 a0_3) := (blk_cell BK149.out 3).trans rfl; have hcz16_4 : w15.cell? ⟨gb149, 4, none⟩ = some (.int .i64 a0_4) := (blk_cell BK149.out 4).trans rfl; have hcz16_5 : w15.cell? ⟨gb149, 5, none⟩ = some (.int .i64 a0_5) := (blk_cell BK149.out 5).trans rfl; have hfz16_0 := blk_frozen BK149.out 0; have hfz16_1 := blk_frozen BK149.out 1; have hfz16_2 := blk_frozen BK149.out 2; have hfz16_3 := blk_frozen BK149.out 3; have hfz16_4 := blk_frozen BK149.out 4; have hfz16_5 := blk_frozen BK149.out 5))
            go_ret2
            exact ⟨by first | rfl | (simp [errW_none, errW_some] <;> rfl) | (simp [*, errW_none, errW_some] <;> rfl), by repeat (first | (with_reducible first | exact HB.out | apply below_alloc | apply pw_below_drewN | apply below_drew1 | refine below_set ?_ GE149.out) | exact HB.out)⟩
          · rw [if_neg c14] at H
            have c14b0 : (a0_0 == 7) = false := beq_eq_false_iff_ne.mpr c14
            have c14b1 : (a0_0 != 7) = true := bne_iff_ne.mpr c14
            by_cases c17 : a0_0 = 8
            · rw [if_pos c17] at H
              have c17b0 : (a0_0 == 8) = true := beq_iff_eq.mpr c17
              have c17b1 : (a0_0 != 8) = false := bne_eq_false_iff_eq.mpr c17
              clear c17
              simp only [Option.some.injEq, Prod.mk.injEq] at H
              obtain ⟨rfl, rfl⟩ := H
              go_enter Try.func62, Try.ntmps62
              go_wp2_with (first | ((with_reducible refine gate_dst (N := 1) rfl ?_); refine box_event ?hg (N := 1) ?hd (cs := #[.int .u8 a0_0, .int .u8 a0_1, .int .i64 a0_2, .int .i64 a0_3, .int .i64 a0_4, .int .i64 a0_5]) (t := 46) ?hr ?_; (case hd => rfl); (case hg => rfl); (case hr => first | (go_simp; done) | (go_simp; rfl)); intro gb149 hg w18 hbox hb; have n0_ := Aside0.mk (below_step (by repeat (first | (with_reducible first | exact HB.out | apply below_alloc | apply pw_below_drewN | apply below_drew1) | exact HB.out)) hb); have n1_ := Aside0.mk (hbox); have n2_ := Aside0.mk ((by rw [hg]; exact (below_size (by repeat (first | (with_reducible first | exact HB.out | apply below_alloc | apply pw_below_drewN | apply below_drew1) | exact HB.out))) : w.heap.size ≤ gb149)); have n3_ := Aside0.mk ((by rw [hg]; exact (below_size (by repeat (first | (with_reducible first | exact HB.out | apply below_alloc | apply pw_below_drewN | apply below_drew1) | exact HB.out))) : w.heap.size ≤ gb149)); clear HB; have HB := n0_; have BK149 := n1_; have GW149 := n2_; have GE149 := n3_; clear n0_ n1_ n2_ n3_; clear hb hbox hg; have hcz19_0 : w18.cell? ⟨gb149, 0, none⟩ = some (.int .u8 a0_0) := (blk_cell BK149.out 0).trans rfl; have hcz19_1 : w18.cell? ⟨gb149, 1, none⟩ = some (.int .u8 a0_1) := (blk_cell BK149.out 1).trans rfl; have hcz19_2 : w18.cell? ⟨gb149, 2, none⟩ = some (.int .i64 a0_2) := (blk_cell BK149.out 2).trans rfl; have hcz19_3 : w18.cell? ⟨gb149, 3, none⟩ = some (.int .i64 a0_3) := (blk_cell BK149.out 3).trans rfl; have hcz19_4 : w18.cell? ⟨gb149, 4, none⟩ = some (.int .i64 a0_4) := (blk_cell BK149.out 4).trans rfl; have hcz19_5 : w18.cell? ⟨gb149, 5, none⟩ = some (.int .i64 a0_5) := (blk_cell BK149.out 5).trans rfl; have hfz19_0 := blk_frozen BK149.out 0; have hfz19_1 := blk_frozen BK149.out 1; have hfz19_2 := blk_frozen BK149.out 2; have hfz19_3 := blk_frozen BK149.out 3; have hfz19_4 := blk_frozen BK149.out 4; have hfz19_5 := blk_frozen BK149.out 5))
              go_ret2
              exact ⟨by first | rfl | (simp [errW_none, errW_some] <;> rfl) | (simp [*, errW_none, errW_some] <;> rfl), by repeat (first | (with_reducible first | exact HB.out | apply below_alloc | apply pw_below_drewN | apply below_drew1 | refine below_set ?_ GE149.out) | exact HB.out)⟩
            · rw [if_neg c17] at H
              have c17b0 : (a0_0 == 8) = false := beq_eq_false_iff_ne.mpr c17
              have c17b1 : (a0_0 != 8) = true := bne_iff_ne.mpr c17
              by_cases c20 : a0_0 = 10
              · rw [if_pos c20] at H
                have c20b0 : (a0_0 == 10) = true := beq_iff_eq.mpr c20
                have c20b1 : (a0_0 != 10) = false := bne_eq_false_iff_eq.mpr c20
                clear c20
                simp only [Option.some.injEq, Prod.mk.injEq] at H
                obtain ⟨rfl, rfl⟩ := H
                go_enter Try.func62, Try.ntmps62
                go_wp2_with (first | ((with_reducible refine gate_dst (N := 1) rfl ?_); refine box_event ?hg (N := 1) ?hd (cs := #[.int .u8 a0_0, .int .u8 a0_1, .int .i64 a0_2, .int .i64 a0_3, .int .i64 a0_4, .int .i64 a0_5]) (t := 46) ?hr ?_; (case hd => rfl); (case hg => rfl); (case hr => first | (go_simp; done) | (go_simp; rfl)); intro gb149 hg w21 hbox hb; have n0_ := Aside0.mk (below_step (by repeat (first | (with_reducible first | exact HB.out | apply below_alloc | apply pw_below_drewN | apply below_drew1) | exact HB.out)) hb); have n1_ := Aside0.mk (hbox); have n2_ := Aside0.mk ((by rw [hg]; exact (below_size (by repeat (first | (with_reducible first | exact HB.out | apply below_alloc | apply pw_below_drewN | apply below_drew1) | exact HB.out))) : w.heap.size ≤ gb149)); have n3_ := Aside0.mk ((by rw [hg]; exact (below_size (by repeat (first | (with_reducible first | exact HB.out | apply below_alloc | apply pw_below_drewN | apply below_drew1) | exact HB.out))) : w.heap.size ≤ gb149)); clear HB; have HB := n0_; have BK149 := n1_; have GW149 := n2_; have GE149 := n3_; clear n0_ n1_ n2_ n3_; clear hb hbox hg; have hcz22_0 : w21.cell? ⟨gb149, 0, none⟩ = some (.int .u8 a0_0) := (blk_cell BK149.out 0).trans rfl; have hcz22_1 : w21.cell? ⟨gb149, 1, none⟩ = some (.int .u8 a0_1) := (blk_cell BK149.out 1).trans rfl; have hcz22_2 : w21.cell? ⟨gb149, 2, none⟩ = some (.int .i64 a0_2) := (blk_cell BK149.out 2).trans rfl; have hcz22_3 : w21.cell? ⟨gb149, 3, none⟩ = some (.int .i64 a0_3) := (blk_cell BK149.out 3).trans rfl; have hcz22_4 : w21.cell? ⟨gb149, 4, none⟩ = some (.int .i64 a0_4) := (blk_cell BK149.out 4).trans rfl; have hcz22_5 : w21.cell? ⟨gb149, 5, none⟩ = some (.int .i64 a0_5) := (blk_cell BK149.out 5).trans rfl; have hfz22_0 := blk_frozen BK149.out 0; have hfz22_1 := blk_frozen BK149.out 1; have hfz22_2 := blk_frozen BK149.out 2; have hfz22_3 := blk_frozen BK149.out 3; have hfz22_4 := blk_frozen BK149.out 4; have hfz22_5 := blk_frozen BK149.out 5))
                go_ret2
                exact ⟨by first | rfl | (simp [errW_none, errW_some] <;> rfl) | (simp [*, errW_none, errW_some] <;> rfl), by repeat (first | (with_reducible first | exact HB.out | apply below_alloc | apply pw_below_drewN | apply below_drew1 | refine below_set ?_ GE149.out) | exact HB.out)⟩
              · rw [if_neg c20] at H
                have c20b0 : (a0_0 == 10) = false := beq_eq_false_iff_ne.mpr c20
                have c20b1 : (a0_0 != 10) = true := bne_iff_ne.mpr c20
                simp only [Option.some.injEq, Prod.mk.injEq] at H
                obtain ⟨rfl, rfl⟩ := H
                go_enter Try.func62, Try.ntmps62
                go_wp2_with (first | ((with_reducible refine gate_dst (N := 1) rfl ?_); refine box_event ?hg (N := 1) ?hd (cs := #[.int .u8 a0_0, .int .u8 a0_1, .int .i64 a0_2, .int .i64 a0_3, .int .i64 a0_4, .int .i64 a0_5]) (t := 46) ?hr ?_; (case hd => rfl); (case hg => rfl); (case hr => first | (go_simp; done) | (go_simp; rfl)); intro gb149 hg w23 hbox hb; have n0_ := Aside0.mk (below_step (by repeat (first | (with_reducible first | exact HB.out | apply below_alloc | apply pw_below_drewN | apply below_drew1) | exact HB.out)) hb); have n1_ := Aside0.mk (hbox); have n2_ := Aside0.mk ((by rw [hg]; exact (below_size (by repeat (first | (with_reducible first | exact HB.out | apply below_alloc | apply pw_below_drewN | apply below_drew1) | exact HB.out))) : w.heap.size ≤ gb149)); have n3_ := Aside0.mk ((by rw [hg]; exact (below_size (by repeat (first | (with_reducible first | exact HB.out | apply below_alloc | apply pw_below_drewN | apply below_drew1) | exact HB.out))) : w.heap.size ≤ gb149)); clear HB; have HB := n0_; have BK149 := n1_; have GW149 := n2_; have GE149 := n3_; clear n0_ n1_ n2_ n3_; clear hb hbox hg; have hcz24_0 : w23.cell? ⟨gb149, 0, none⟩ = some (.int .u8 a0_0) := (blk_cell BK149.out 0).trans rfl; have hcz24_1 : w23.cell? ⟨gb149, 1, none⟩ = some (.int .u8 a0_1) := (blk_cell BK149.out 1).trans rfl; have hcz24_2 : w23.cell? ⟨gb149, 2, none⟩ = some (.int .i64 a0_2) := (blk_cell BK149.out 2).trans rfl; have hcz24_3 : w23.cell? ⟨gb149, 3, none⟩ = some (.int .i64 a0_3) := (blk_cell BK149.out 3).trans rfl; have hcz24_4 : w23.cell? ⟨gb149, 4, none⟩ = some (.int .i64 a0_4) := (blk_cell BK149.out 4).trans rfl; have hcz24_5 : w23.cell? ⟨gb149, 5, none⟩ = some (.int .i64 a0_5) := (blk_cell BK149.out 5).trans rfl; have hfz24_0 := blk_frozen BK149.out 0; have hfz24_1 := blk_frozen BK149.out 1; have hfz24_2 := blk_frozen BK149.out 2; have hfz24_3 := blk_frozen BK149.out 3; have hfz24_4 := blk_frozen BK149.out 4; have hfz24_5 := blk_frozen BK149.out 5))
                go_ret2
                exact ⟨by first | rfl | (simp [errW_none, errW_some] <;> rfl) | (simp [*, errW_none, errW_some] <;> rfl), by repeat (first | (with_reducible first | exact HB.out | apply below_alloc | apply pw_below_drewN | apply below_drew1 | refine below_set ?_ GE149.out) | exact HB.out)⟩
end Go.Proofs.Ytjmeignhhheckaa.Q
namespace Go.Proofs.Ytjmeignhhheckaa.Q
open Go.RowKit Go.Proofs.YtjmeignhhheckaaW.PrintWords Go.Proofs.YtjmeignhhheckaaW.PrintLast Go.Proofs.YtjmeignhhheckaaW.PrintMore
attribute [local go_sem] max2_int min2_int max_two min_two max_three min_three max_four min_four   -- for this text's walks alone
set_option linter.unusedVariables false
set_option linter.unusedSimpArgs false
def paths_word.f (a0_0 : Int) (a0_1 : Int) (a0_2 : Int) (a0_3 : Int) (a0_4 : Int) (a0_5 : Int) (l1 : List Int) : Option (List Int) := if l1.length < 17592186044416 then ((some (l1 ++ [a0_3] : List Int)).bind fun y151 => (if a0_4 ≥ 0 then (if y151.length < 17592186044416 then (some (y151 ++ [a0_4])) else (none)) else (some y151))) else (none)
set_option maxHeartbeats 8000000 in
set_option maxRecDepth 100000 in
theorem paths_word.calls (a0_0 : Int) (a0_1 : Int) (a0_2 : Int) (a0_3 : Int) (a0_4 : Int) (a0_5 : Int) (P1_ : Nat → Prop) (u9000_ : Value) (l1 : List Int) (r : List Int) (w0 w : World) (hB : Below w0.heap.size w0 w) (ho1 : Kd.R (Kd.int .i64) 3 w w0.heap.size P1_ u9000_ l1) (h : paths_word.f a0_0 a0_1 a0_2 a0_3 a0_4 a0_5 l1 = some r) :
    Calls Try.prog 111 #[.agg #[.int .u8 a0_0, .int .u8 a0_1, .int .i64 a0_2, .int .i64 a0_3, .int .i64 a0_4, .int .i64 a0_5], u9000_] w fun e w' => ∃ v0_ : Value, e = .returned (v0_) ∧ Kd.R (Kd.int .i64) 3 w' w0.heap.size (fun k_ => (P1_ k_ ∨ w.heap.size ≤ k_)) v0_ r ∧ Below w0.heap.size w0 w' ∧ Kept w w' (fun k_ => P1_ k_) := by
  have hu46 := Try.underlying46
  have HO1 := Aside0.mk (show Kd.R (Kd.int .i64) 3 w w0.heap.size (fun k_ => (P1_ k_ ∨ w.heap.size ≤ k_)) u9000_ l1 from Kd.R_mono ho1 (fun k_ hk => (.inl hk)))
  have HK := Aside0.mk (Kept.refl w (fun k_ => P1_ k_))
  have HW0 := Aside0.mk hB.size
  have HB := Aside0.mk hB
  clear hB
  have H : (if l1.length < 17592186044416 then ((some (l1 ++ [a0_3] : List Int)).bind fun y151 => (if a0_4 ≥ 0 then (if y151.length < 17592186044416 then (some (y151 ++ [a0_4])) else (none)) else (some y151))) else (none)) = some r := h
  clear h
  by_cases c3 : l1.length < 17592186044416
  · rw [if_pos c3] at H
    have LMc3 := Aside0.mk c3
    clear c3
    obtain ⟨y151, hy151⟩ : ∃ y_ : List Int, y_ = (l1 ++ [a0_3]) := ⟨_, rfl⟩
    replace H : (if a0_4 ≥ 0 then (if y151.length < 17592186044416 then (some (y151 ++ [a0_4])) else (none)) else (some y151)) = some r := by first | (rw [hy151]; with_reducible exact H) | (have H2_ := (Option.bind_some _ _).symm.trans H; rw [hy151]; with_reducible exact H2_) | (have H2_ := (Option.bind_some _ _).symm.trans H; with_reducible exact H2_) | with_reducible exact H | (rw [hy151]; exact H) | exact H
    have Ny151 := Aside0.mk hy151
    clear hy151
    by_cases c4 : a0_4 ≥ 0
    · rw [if_pos c4] at H
      have c4b0 : decide (0 ≤ a0_4) = true := decide_eq_true c4
      clear c4
      by_cases c5 : y151.length < 17592186044416
      · rw [if_pos c5] at H
        have LMc5 := Aside0.mk c5
        clear c5
        obtain ⟨y154, hy154⟩ : ∃ y_ : List Int, y_ = (y151 ++ [a0_4]) := ⟨_, rfl⟩
        replace H : (some y154) = some r := by first | (rw [hy154]; with_reducible exact H) | (have H2_ := (Option.bind_some _ _).symm.trans H; rw [hy154]; with_reducible exact H2_) | (have H2_ := (Option.bind_some _ _).symm.trans H; with_reducible exact H2_) | with_reducible exact H | (rw [hy154]; exact H) | exact H
        have Ny154 := Aside0.mk hy154
        clear hy154
        obtain rfl := Option.some.inj H
        go_enter Try.func111, Try.ntmps111
        go_wp2_with (first | ((with_reducible refine gate_dst (N := 2) rfl ?_); refine box_event ?hg (N := 2) ?hd (cs := #[.int .u8 a0_0, .int .u8 a0_1, .int .i64 a0_2, .int .i64 a0_3, .int .i64 a0_4, .int .i64 a0_5]) (t := 46) ?hr ?_; (case hd => rfl); (case hg => rfl); (case hr => first | (go_simp; done) | (go_simp; rfl)); intro gb150 hg w6 hbox hb; have n0_ := Aside0.mk (Kd.R_below (by (with_reducible repeat (first | apply Kd.R_alloc | apply Kd.R_drewN | apply Kd.R_drew)); exact HO1.out) hb); have n1_ := Aside0.mk (Kept.below (S := (fun k_ => P1_ k_)) (by repeat (first | (with_reducible first | exact HK.out | apply Kept.alloc | apply Kept.drewN | apply Kept.drew) | exact HK.out)) hb); have n2_ := Aside0.mk (below_step (by repeat (first | (with_reducible first | exact HB.out | apply below_alloc | apply pw_below_drewN | apply below_drew1) | exact HB.out)) hb); have n3_ := Aside0.mk (hbox); have n4_ := Aside0.mk ((by rw [hg]; exact (by first | exact HK.out.1 | exact (show Kept w _ (fun k_ => P1_ k_) from by repeat (first | (with_reducible first | exact HK.out | apply Kept.alloc | apply Kept.drewN | apply Kept.drew) | exact HK.out)).1) : w.heap.size ≤ gb150)); have n5_ := Aside0.mk ((by rw [hg]; exact (below_size (by repeat (first | (with_reducible first | exact HB.out | apply below_alloc | apply pw_below_drewN | apply below_drew1) | exact HB.out))) : w0.heap.size ≤ gb150)); clear HO1; clear HK; clear HB; have HO1 := n0_; have HK := n1_; have HB := n2_; have BK150 := n3_; have GW150 := n4_; have GE150 := n5_; clear n0_ n1_ n2_ n3_ n4_ n5_; clear hb hbox hg; have hcz7_0 : w6.cell? ⟨gb150, 0, none⟩ = some (.int .u8 a0_0) := (blk_cell BK150.out 0).trans rfl; have hcz7_1 : w6.cell? ⟨gb150, 1, none⟩ = some (.int .u8 a0_1) := (blk_cell BK150.out 1).trans rfl; have hcz7_2 : w6.cell? ⟨gb150, 2, none⟩ = some (.int .i64 a0_2) := (blk_cell BK150.out 2).trans rfl; have hcz7_3 : w6.cell? ⟨gb150, 3, none⟩ = some (.int .i64 a0_3) := (blk_cell BK150.out 3).trans rfl; have hcz7_4 : w6.cell? ⟨gb150, 4, none⟩ = some (.int .i64 a0_4) := (blk_cell BK150.out 4).trans rfl; have hcz7_5 : w6.cell? ⟨gb150, 5, none⟩ = some (.int .i64 a0_5) := (blk_cell BK150.out 5).trans rfl; have hfz7_0 := blk_frozen BK150.out 0; have hfz7_1 := blk_frozen BK150.out 1; have hfz7_2 := blk_frozen BK150.out 2; have hfz7_3 := blk_frozen BK150.out 3; have hfz7_4 := blk_frozen BK150.out 4; have hfz7_5 := blk_frozen BK150.out 5) | ((with_reducible refine gate_builtin (b := .append) (xs := #[.tmp 5, .tmp 8]) rfl ?_); at_builtin; refine Kd.R_append (Kd.int .i64) (w0 := w0) w0.heap.size rfl (.tmp 5) (.tmp 8) 37 3 (.int .i64 0) 8 rfl Try.underlying37 info3 rfl (by decide) (by omega) u9000_ l1 a0_3 [.int .i64 a0_3] (fun k_ => (P1_ k_ ∨ w.heap.size ≤ k_)) (fun _ => False) rfl rfl ?aP (fun _ hk => hk.elim) ?aF ?aO ?aB ?aS ?aL ?_; (case aP => exact rfl); (case aB => exact (by repeat (first | (with_reducible first | exact HB.out | apply below_alloc | apply pw_below_drewN | apply below_drew1 | refine below_set ?_ GE150.out) | exact HB.out))); (case aF => exact (fun k_ hk => (.inr (Nat.le_trans (by first | exact HK.out.1 | exact (show Kept w _ (fun k_ => P1_ k_) from by repeat (first | (with_reducible first | exact HK.out | apply Kept.alloc | apply Kept.drewN | apply Kept.drew | refine Kept.setCell ?_ (.inr GW150.out) _) | exact HK.out)).1) hk)))); (case aO => exact (by (with_reducible repeat (first | apply Kd.R_alloc | apply Kd.R_drewN | apply Kd.R_drew)); exact HO1.out)); (case aS => exact (below_size (by repeat (first | (with_reducible first | exact HB.out | apply below_alloc | apply pw_below_drewN | apply below_drew1 | refine below_set ?_ GE150.out) | exact HB.out)))); (case aL => have := LMc3.out; omega); intro v152 w8 ho hb hg hat; rw [← Ny151.out] at ho; have n0_ := Aside0.mk (blk_grown (g := gb150) (o := .cells #[.int .u8 a0_0, .int .u8 a0_1, .int .i64 a0_2, .int .i64 a0_3, .int .i64 a0_4, .int .i64 a0_5] 46 (0, 0)) (by (with_reducible repeat (first | refine blk_drewN ?_ _ | refine blk_drew ?_ | refine blk_alloc ?_ _)); exact BK150.out) hg (Kd.R_ne HO1.out BK150.out (by decide))); have n1_ := Aside0.mk (hb); have n2_ := Aside0.mk (Kept.of_grown (S := (fun k_ => P1_ k_)) hg (by repeat (first | (with_reducible first | exact HK.out | apply Kept.alloc | apply Kept.drewN | apply Kept.drew | refine Kept.setCell ?_ (.inr GW150.out) _) | exact HK.out)) (fun k_ e_ => (HO1.out.1 k_ e_))); have n3_ := Aside0.mk (ho); clear BK150; clear HB; clear HK; clear HO1; have BK150 := n0_; have HB := n1_; have HK := n2_; have HO153 := n3_; clear n0_ n1_ n2_ n3_; clear ho hb hg hat; have hcz9_0 : w8.cell? ⟨gb150, 0, none⟩ = some (.int .u8 a0_0) := (blk_cell BK150.out 0).trans rfl; have hcz9_1 : w8.cell? ⟨gb150, 1, none⟩ = some (.int .u8 a0_1) := (blk_cell BK150.out 1).trans rfl; have hcz9_2 : w8.cell? ⟨gb150, 2, none⟩ = some (.int .i64 a0_2) := (blk_cell BK150.out 2).trans rfl; have hcz9_3 : w8.cell? ⟨gb150, 3, none⟩ = some (.int .i64 a0_3) := (blk_cell BK150.out 3).trans rfl; have hcz9_4 : w8.cell? ⟨gb150, 4, none⟩ = some (.int .i64 a0_4) := (blk_cell BK150.out 4).trans rfl; have hcz9_5 : w8.cell? ⟨gb150, 5, none⟩ = some (.int .i64 a0_5) := (blk_cell BK150.out 5).trans rfl; have hfz9_0 := blk_frozen BK150.out 0; have hfz9_1 := blk_frozen BK150.out 1; have hfz9_2 := blk_frozen BK150.out 2; have hfz9_3 := blk_frozen BK150.out 3; have hfz9_4 := blk_frozen BK150.out 4; have hfz9_5 := blk_frozen BK150.out 5) | ((with_reducible refine gate_builtin (b := .append) (xs := #[.tmp 13, .tmp 16]) rfl ?_); at_builtin; refine Kd.R_append (Kd.int .i64) (w0 := w0) w0.heap.size rfl (.tmp 13) (.tmp 16) 37 3 (.int .i64 0) 8 rfl Try.underlying37 info3 rfl (by decide) (by omega) v152 y151 a0_4 [.int .i64 a0_4] (fun k_ => (P1_ k_ ∨ w.heap.size ≤ k_)) (fun _ => False) rfl rfl ?aP (fun _ hk => hk.elim) ?aF ?aO ?aB ?aS ?aL ?_; (case aP => exact rfl); (case aB => exact (by repeat (first | (with_reducible first | exact HB.out | apply below_alloc | apply pw_below_drewN | apply below_drew1 | refine below_set ?_ GE150.out) | exact HB.out))); (case aF => exact (fun k_ hk => (.inr (Nat.le_trans (by first | exact HK.out.1 | exact (show Kept w _ (fun k_ => P1_ k_) from by repeat (first | (with_reducible first | exact HK.out | apply Kept.alloc | apply Kept.drewN | apply Kept.drew | refine Kept.setCell ?_ (.inr GW150.out) _) | exact HK.out)).1) hk)))); (case aO => exact (by (with_reducible repeat (first | apply Kd.R_alloc | apply Kd.R_drewN | apply Kd.R_drew)); exact HO153.out)); (case aS => exact (below_size (by repeat (first | (with_reducible first | exact HB.out | apply below_alloc | apply pw_below_drewN | apply below_drew1 | refine below_set ?_ GE150.out) | exact HB.out)))); (case aL => have := LMc5.out; omega); intro v155 w10 ho hb hg hat; rw [← Ny154.out] at ho; have n0_ := Aside0.mk (blk_grown (g := gb150) (o := .cells #[.int .u8 a0_0, .int .u8 a0_1, .int .i64 a0_2, .int .i64 a0_3, .int .i64 a0_4, .int .i64 a0_5] 46 (0, 0)) (by (with_reducible repeat (first | refine blk_drewN ?_ _ | refine blk_drew ?_ | refine blk_alloc ?_ _)); exact BK150.out) hg (Kd.R_ne HO153.out BK150.out (by decide))); have n1_ := Aside0.mk (hb); have n2_ := Aside0.mk (Kept.of_grown (S := (fun k_ => P1_ k_)) hg (by repeat (first | (with_reducible first | exact HK.out | apply Kept.alloc | apply Kept.drewN | apply Kept.drew | refine Kept.setCell ?_ (.inr GW150.out) _) | exact HK.out)) (fun k_ e_ => (HO153.out.1 k_ e_))); have n3_ := Aside0.mk (ho); clear BK150; clear HB; clear HK; clear HO153; have BK150 := n0_; have HB := n1_; have HK := n2_; have HO156 := n3_; clear n0_ n1_ n2_ n3_; clear ho hb hg hat))
        go_ret
        exact ⟨_, by first | rfl | (simp [errW_none, errW_some] <;> rfl) | (simp [*, errW_none, errW_some] <;> rfl), by (with_reducible repeat (first | apply Kd.R_alloc | apply Kd.R_drewN | apply Kd.R_drew)); exact HO156.out, by repeat (first | (with_reducible first | exact HB.out | apply below_alloc | apply pw_below_drewN | apply below_drew1 | refine below_set ?_ GE150.out) | exact HB.out), by repeat (first | (with_reducible first | exact HK.out | apply Kept.alloc | apply Kept.drewN | apply Kept.drew | refine Kept.setCell ?_ (.inr GW150.out) _) | exact HK.out)⟩
      · rw [if_neg c5] at H
        exact absurd H (by simp)
    · rw [if_neg c4] at H
      have c4b0 : decide (0 ≤ a0_4) = false := decide_eq_false c4
      clear c4
      obtain rfl := Option.some.inj H
      go_enter Try.func111, Try.ntmps111
      go_wp2_with (first | ((with_reducible refine gate_dst (N := 2) rfl ?_); refine box_event ?hg (N := 2) ?hd (cs := #[.int .u8 a0_0, .int .u8 a0_1, .int .i64 a0_2, .int .i64 a0_3, .int .i64 a0_4, .int .i64 a0_5]) (t := 46) ?hr ?_; (case hd => rfl); (case hg => rfl); (case hr => first | (go_simp; done) | (go_simp; rfl)); intro gb150 hg w11 hbox hb; have n0_ := Aside0.mk (Kd.R_below (by (with_reducible repeat (first | apply Kd.R_alloc | apply Kd.R_drewN | apply Kd.R_drew)); exact HO1.out) hb); have n1_ := Aside0.mk (Kept.below (S := (fun k_ => P1_ k_)) (by repeat (first | (with_reducible first | exact HK.out | apply Kept.alloc | apply Kept.drewN | apply Kept.drew) | exact HK.out)) hb); have n2_ := Aside0.mk (below_step (by repeat (first | (with_reducible first | exact HB.out | apply below_alloc | apply pw_below_drewN | apply below_drew1) | exact HB.out)) hb); have n3_ := Aside0.mk (hbox); have n4_ := Aside0.mk ((by rw [hg]; exact (by first | exact HK.out.1 | exact (show Kept w _ (fun k_ => P1_ k_) from by repeat (first | (with_reducible first | exact HK.out | apply Kept.alloc | apply Kept.drewN | apply Kept.drew) | exact HK.out)).1) : w.heap.size ≤ gb150)); have n5_ := Aside0.mk ((by rw [hg]; exact (below_size (by repeat (first | (with_reducible first | exact HB.out | apply below_alloc | apply pw_below_drewN | apply below_drew1) | exact HB.out))) : w0.heap.size ≤ gb150)); clear HO1; clear HK; clear HB; have HO1 := n0_; have HK := n1_; have HB := n2_; have BK150 := n3_; have GW150 := n4_; have GE150 := n5_; clear n0_ n1_ n2_ n3_ n4_ n5_; clear hb hbox hg; have hcz12_0 : w11.cell? ⟨gb150, 0, none⟩ = some (.int .u8 a0_0) := (blk_cell BK150.out 0).trans rfl; have hcz12_1 : w11.cell? ⟨gb150, 1, none⟩ = some (.int .u8 a0_1) := (blk_cell BK150.out 1).trans rfl; have hcz12_2 : w11.cell? ⟨gb150, 2, none⟩ = some (.int .i64 a0_2) := (blk_cell BK150.out 2).trans rfl; have hcz12_3 : w11.cell? ⟨gb150, 3, none⟩ = some (.int .i64 a0_3) := (blk_cell BK150.out 3).trans rfl; have hcz12_4 : w11.cell? ⟨gb150, 4, none⟩ = some (.int .i64 a0_4) := (blk_cell BK150.out 4).trans rfl; have hcz12_5 : w11.cell? ⟨gb150, 5, none⟩ = some (.int .i64 a0_5) := (blk_cell BK150.out 5).trans rfl; have hfz12_0 := blk_frozen BK150.out 0; have hfz12_1 := blk_frozen BK150.out 1; have hfz12_2 := blk_frozen BK150.out 2; have hfz12_3 := blk_frozen BK150.out 3; have hfz12_4 := blk_frozen BK150.out 4; have hfz12_5 := blk_frozen BK150.out 5) | ((with_reducible refine gate_builtin (b := .append) (xs := #[.tmp 5, .tmp 8]) rfl ?_); at_builtin; refine Kd.R_append (Kd.int .i64) (w0 := w0) w0.heap.size rfl (.tmp 5) (.tmp 8) 37 3 (.int .i64 0) 8 rfl Try.underlying37 info3 rfl (by decide) (by omega) u9000_ l1 a0_3 [.int .i64 a0_3] (fun k_ => (P1_ k_ ∨ w.heap.size ≤ k_)) (fun _ => False) rfl rfl ?aP (fun _ hk => hk.elim) ?aF ?aO ?aB ?aS ?aL ?_; (case aP => exact rfl); (case aB => exact (by repeat (first | (with_reducible first | exact HB.out | apply below_alloc | apply pw_below_drewN | apply below_drew1 | refine below_set ?_ GE150.out) | exact HB.out))); (case aF => exact (fun k_ hk => (.inr (Nat.le_trans (by first | exact HK.out.1 | exact (show Kept w _ (fun k_ => P1_ k_) from by repeat (first | (with_reducible first | exact HK.out | apply Kept.alloc | apply Kept.drewN | apply Kept.drew | refine Kept.setCell ?_ (.inr GW150.out) _) | exact HK.out)).1) hk)))); (case aO => exact (by (with_reducible repeat (first | apply Kd.R_alloc | apply Kd.R_drewN | apply Kd.R_drew)); exact HO1.out)); (case aS => exact (below_size (by repeat (first | (with_reducible first | exact HB.out | apply below_alloc | apply pw_below_drewN | apply below_drew1 | refine below_set ?_ GE150.out) | exact HB.out)))); (case aL => have := LMc3.out; omega); intro v152 w13 ho hb hg hat; rw [← Ny151.out] at ho; have n0_ := Aside0.mk (blk_grown (g := gb150) (o := .cells #[.int .u8 a0_0, .int .u8 a0_1, .int .i64 a0_2, .int .i64 a0_3, .int .i64 a0_4, .int .i64 a0_5] 46 (0, 0)) (by (with_reducible repeat (first | refine blk_drewN ?_ _ | refine blk_drew ?_ | refine blk_alloc ?_ _)); exact BK150.out) hg (Kd.R_ne HO1.out BK150.out (by decide))); have n1_ := Aside0.mk (hb); have n2_ := Aside0.mk (Kept.of_grown (S := (fun k_ => P1_ k_)) hg (by repeat (first | (with_reducible first | exact HK.out | apply Kept.alloc | apply Kept.drewN | apply Kept.drew | refine Kept.setCell ?_ (.inr GW150.out) _) | exact HK.out)) (fun k_ e_ => (HO1.out.1 k_ e_))); have n3_ := Aside0.mk (ho); clear BK150; clear HB; clear HK; clear HO1; have BK150 := n0_; have HB := n1_; have HK := n2_; have HO153 := n3_; clear n0_ n1_ n2_ n3_; clear ho hb hg hat; have hcz14_0 : w13.cell? ⟨gb150, 0, none⟩ = some (.int .u8 a0_0) := (blk_cell BK150.out 0).trans rfl; have hcz14_1 : w13.cell? ⟨gb150, 1, none⟩ = some (.int .u8 a0_1) := (blk_cell BK150.out 1).trans rfl; have hcz14_2 : w13.cell? ⟨gb150, 2, none⟩ = some (.int .i64 a0_2) := (blk_cell BK150.out 2).trans rfl; have hcz14_3 : w13.cell? ⟨gb150, 3, none⟩ = some (.int .i64 a0_3) := (blk_cell BK150.out 3).trans rfl; have hcz14_4 : w13.cell? ⟨gb150, 4, none⟩ = some (.int .i64 a0_4) := (blk_cell BK150.out 4).trans rfl; have hcz14_5 : w13.cell? ⟨gb150, 5, none⟩ = some (.int .i64 a0_5) := (blk_cell BK150.out 5).trans rfl; have hfz14_0 := blk_frozen BK150.out 0; have hfz14_1 := blk_frozen BK150.out 1; have hfz14_2 := blk_frozen BK150.out 2; have hfz14_3 := blk_frozen BK150.out 3; have hfz14_4 := blk_frozen BK150.out 4; have hfz14_5 := blk_frozen BK150.out 5))
      go_ret
      exact ⟨_, by first | rfl | (simp [errW_none, errW_some] <;> rfl) | (simp [*, errW_none, errW_some] <;> rfl), by (with_reducible repeat (first | apply Kd.R_alloc | apply Kd.R_drewN | apply Kd.R_drew)); exact HO153.out, by repeat (first | (with_reducible first | exact HB.out | apply below_alloc | apply pw_below_drewN | apply below_drew1 | refine below_set ?_ GE150.out) | exact HB.out), by repeat (first | (with_reducible first | exact HK.out | apply Kept.alloc | apply Kept.drewN | apply Kept.drew | refine Kept.setCell ?_ (.inr GW150.out) _) | exact HK.out)⟩
  · rw [if_neg c3] at H
    exact absurd H (by simp)
end Go.Proofs.Ytjmeignhhheckaa.Q
namespace Go.Proofs.Ytjmeignhhheckaa.Q
open Go.RowKit Go.Proofs.YtjmeignhhheckaaW.PrintWords Go.Proofs.YtjmeignhhheckaaW.PrintLast Go.Proofs.YtjmeignhhheckaaW.PrintMore
attribute [local go_sem] max2_int min2_int max_two min_two max_three min_three max_four min_four   -- for this text's walks alone
set_option linter.unusedVariables false
set_option linter.unusedSimpArgs false
mutual
def paths_Asks.j0 : Nat → Int → Bool → Int → Int → Int → Int → Int → Int → Option (List Int)
  | 0, _, _, _, _, _, _, _, _ => none
  | k + 1, x4, x5, x158000, x158001, x158002, x158003, x158004, x158005 => if x5 = true then (some (([x158003] : List Int))) else (if x4 = 3 then (some (([x158003, x158004] : List Int))) else (if x4 = 8 then (paths_Asks.j1 k x4 (x4 == 8) x158000 x158001 x158002 x158003 x158004 x158005) else (paths_Asks.j1 k x4 (x4 == 10) x158000 x158001 x158002 x158003 x158004 x158005)))
def paths_Asks.j1 : Nat → Int → Bool → Int → Int → Int → Int → Int → Int → Option (List Int)
  | 0, _, _, _, _, _, _, _, _ => none
  | k + 1, x4, x20, x158000, x158001, x158002, x158003, x158004, x158005 => if x20 = true then ((paths_word.f x158000 x158001 x158002 x158003 x158004 x158005 ([] : List Int)).bind fun t164 => (some t164)) else (if x4 = 9 then ((paths_word.f x158000 x158001 x158002 x158003 x158004 x158005 (([x158002] : List Int))).bind fun t170 => (some t170)) else (if x4 = 11 then ((paths_word.f x158000 x158001 x158002 x158003 x158004 x158005 (([x158002] : List Int))).bind fun t176 => (some t176)) else (some ([] : List Int))))
end
def paths_Asks.f (k : Nat) (a0_0 : Int) (a0_1 : Int) (a0_2 : Int) (a0_3 : Int) (a0_4 : Int) (a0_5 : Int) : Option (List Int) := if a0_0 = 2 then (paths_Asks.j0 k a0_0 (a0_0 == 2) a0_0 a0_1 a0_2 a0_3 a0_4 a0_5) else (if a0_0 = 4 then (paths_Asks.j0 k a0_0 (a0_0 == 4) a0_0 a0_1 a0_2 a0_3 a0_4 a0_5) else (if a0_0 = 5 then (paths_Asks.j0 k a0_0 (a0_0 == 5) a0_0 a0_1 a0_2 a0_3 a0_4 a0_5) else (paths_Asks.j0 k a0_0 (a0_0 == 12) a0_0 a0_1 a0_2 a0_3 a0_4 a0_5)))
theorem paths_Asks.mono_l : ∀ k, (∀ y0 y1 y2 y3 y4 y5 y6 y7, LeO (paths_Asks.j0 k y0 y1 y2 y3 y4 y5 y6 y7) (paths_Asks.j0 (k + 1) y0 y1 y2 y3 y4 y5 y6 y7)) ∧ (∀ y0 y1 y2 y3 y4 y5 y6 y7, LeO (paths_Asks.j1 k y0 y1 y2 y3 y4 y5 y6 y7) (paths_Asks.j1 (k + 1) y0 y1 y2 y3 y4 y5 y6 y7))
  | 0 => ⟨fun _ _ _ _ _ _ _ _ r h => by simp [paths_Asks.j0] at h, fun _ _ _ _ _ _ _ _ r h => by simp [paths_Asks.j1] at h⟩
  | k + 1 => by
    obtain ⟨ih0, ih1⟩ := paths_Asks.mono_l k
    refine ⟨?_, ?_⟩
    · intro y0 y1 y2 y3 y4 y5 y6 y7
      unfold paths_Asks.j0
      repeat' first
      | (with_reducible exact ih0 _ _ _ _ _ _ _ _)
      | (with_reducible exact ih1 _ _ _ _ _ _ _ _)
      | (with_reducible exact LeO.refl _)
      | (with_reducible exact LeO.none _)
      | (with_reducible refine LeO.ite ?_ ?_)
      | (with_reducible refine LeO.bind ?_ (fun _ => ?_))
      | exact ih0 _ _ _ _ _ _ _ _
      | exact ih1 _ _ _ _ _ _ _ _
      | exact LeO.none _
      | refine LeO.ite ?_ ?_
      | refine LeO.bind ?_ (fun _ => ?_)
    · intro y0 y1 y2 y3 y4 y5 y6 y7
      unfold paths_Asks.j1
      repeat' first
      | (with_reducible exact ih0 _ _ _ _ _ _ _ _)
      | (with_reducible exact ih1 _ _ _ _ _ _ _ _)
      | (with_reducible exact LeO.refl _)
      | (with_reducible exact LeO.none _)
      | (with_reducible refine LeO.ite ?_ ?_)
      | (with_reducible refine LeO.bind ?_ (fun _ => ?_))
      | exact ih0 _ _ _ _ _ _ _ _
      | exact ih1 _ _ _ _ _ _ _ _
      | exact LeO.none _
      | refine LeO.ite ?_ ?_
      | refine LeO.bind ?_ (fun _ => ?_)
theorem paths_Asks.mono : ∀ a0 a1 a2 a3 a4 a5 k, LeO (paths_Asks.f k a0 a1 a2 a3 a4 a5) (paths_Asks.f (k + 1) a0 a1 a2 a3 a4 a5) := by
  intro a0 a1 a2 a3 a4 a5 k
  obtain ⟨ih0, ih1⟩ := paths_Asks.mono_l k
  unfold paths_Asks.f
  repeat' first
      | (with_reducible exact ih0 _ _ _ _ _ _ _ _)
      | (with_reducible exact ih1 _ _ _ _ _ _ _ _)
      | (with_reducible exact LeO.refl _)
      | (with_reducible exact LeO.none _)
      | (with_reducible refine LeO.ite ?_ ?_)
      | (with_reducible refine LeO.bind ?_ (fun _ => ?_))
      | exact ih0 _ _ _ _ _ _ _ _
      | exact ih1 _ _ _ _ _ _ _ _
      | exact LeO.none _
      | refine LeO.ite ?_ ?_
      | refine LeO.bind ?_ (fun _ => ?_)
set_option maxHeartbeats 8000000 in
set_option maxRecDepth 100000 in
theorem paths_Asks.calls (k : Nat) (a0_0 : Int) (a0_1 : Int) (a0_2 : Int) (a0_3 : Int) (a0_4 : Int) (a0_5 : Int) (r : List Int) (w : World) (h : paths_Asks.f k a0_0 a0_1 a0_2 a0_3 a0_4 a0_5 = some r) :
    Calls Try.prog 93 #[.agg #[.int .u8 a0_0, .int .u8 a0_1, .int .i64 a0_2, .int .i64 a0_3, .int .i64 a0_4, .int .i64 a0_5]] w fun e w' => ∃ v0_ : Value, e = .returned (v0_) ∧ Kd.R (Kd.int .i64) 3 w' w.heap.size (fun _ => True) v0_ r ∧ Below w.heap.size w w' := by
  have hu46 := Try.underlying46
  have HB := Aside0.mk (Below.refl w.heap.size w)
  have H : (if a0_0 = 2 then (paths_Asks.j0 k a0_0 (a0_0 == 2) a0_0 a0_1 a0_2 a0_3 a0_4 a0_5) else (if a0_0 = 4 then (paths_Asks.j0 k a0_0 (a0_0 == 4) a0_0 a0_1 a0_2 a0_3 a0_4 a0_5) else (if a0_0 = 5 then (paths_Asks.j0 k a0_0 (a0_0 == 5) a0_0 a0_1 a0_2 a0_3 a0_4 a0_5) else (paths_Asks.j0 k a0_0 (a0_0 == 12) a0_0 a0_1 a0_2 a0_3 a0_4 a0_5)))) = some r := h
  clear h
  have HC2 := Aside0.mk H
  clear H
  go_enter Try.func93, Try.ntmps93
  go_upto_if 5 with (first | ((with_reducible refine gate_dst (N := 1) rfl ?_); refine box_event ?hg (N := 1) ?hd (cs := #[.int .u8 a0_0, .int .u8 a0_1, .int .i64 a0_2, .int .i64 a0_3, .int .i64 a0_4, .int .i64 a0_5]) (t := 46) ?hr ?_; (case hd => rfl); (case hg => rfl); (case hr => first | (go_simp; done) | (go_simp; rfl)); intro gb157 hg w3 hbox hb; have n0_ := Aside0.mk (below_step (by repeat (first | (with_reducible first | exact HB.out | apply below_alloc | apply pw_below_drewN | apply below_drew1) | exact HB.out)) hb); have n1_ := Aside0.mk (hbox); have n2_ := Aside0.mk ((by rw [hg]; exact (below_size (by repeat (first | (with_reducible first | exact HB.out | apply below_alloc | apply pw_below_drewN | apply below_drew1) | exact HB.out))) : w.heap.size ≤ gb157)); have n3_ := Aside0.mk ((by rw [hg]; exact (below_size (by repeat (first | (with_reducible first | exact HB.out | apply below_alloc | apply pw_below_drewN | apply below_drew1) | exact HB.out))) : w.heap.size ≤ gb157)); clear HB; have HB := n0_; have BK157 := n1_; have GW157 := n2_; have GE157 := n3_; clear n0_ n1_ n2_ n3_; clear hb hbox hg; have hcz4_0 : w3.cell? ⟨gb157, 0, none⟩ = some (.int .u8 a0_0) := (blk_cell BK157.out 0).trans rfl; have hcz4_1 : w3.cell? ⟨gb157, 1, none⟩ = some (.int .u8 a0_1) := (blk_cell BK157.out 1).trans rfl; have hcz4_2 : w3.cell? ⟨gb157, 2, none⟩ = some (.int .i64 a0_2) := (blk_cell BK157.out 2).trans rfl; have hcz4_3 : w3.cell? ⟨gb157, 3, none⟩ = some (.int .i64 a0_3) := (blk_cell BK157.out 3).trans rfl; have hcz4_4 : w3.cell? ⟨gb157, 4, none⟩ = some (.int .i64 a0_4) := (blk_cell BK157.out 4).trans rfl; have hcz4_5 : w3.cell? ⟨gb157, 5, none⟩ = some (.int .i64 a0_5) := (blk_cell BK157.out 5).trans rfl; have hfz4_0 := blk_frozen BK157.out 0; have hfz4_1 := blk_frozen BK157.out 1; have hfz4_2 := blk_frozen BK157.out 2; have hfz4_3 := blk_frozen BK157.out 3; have hfz4_4 := blk_frozen BK157.out 4; have hfz4_5 := blk_frozen BK157.out 5))
  (try simp only [Act.put, List.setIfInBounds_toArray, List.set_cons_zero, List.set_cons_succ])
  go_cut [5] (fun v5 wc => ∃ (kq : Nat) (x5_1 : Bool), v5 = .bool x5_1 ∧ Aside0 (paths_Asks.j0 kq a0_0 x5_1 a0_0 a0_1 a0_2 a0_3 a0_4 a0_5 = some r) ∧ Aside0 (kq ≤ k) ∧ Aside0 (wc.heap[gb157]? = some (.cells #[.int .u8 a0_0, .int .u8 a0_1, .int .i64 a0_2, .int .i64 a0_3, .int .i64 a0_4, .int .i64 a0_5] 46 (0, 0))) ∧ Aside0 (Below w.heap.size w wc))
  case first =>
    have H := HC2.out
    clear HC2
    by_cases c5 : a0_0 = 2
    · rw [if_pos c5] at H
      have c5b0 : (a0_0 == 2) = true := beq_iff_eq.mpr c5
      have c5b1 : (a0_0 != 2) = false := bne_eq_false_iff_eq.mpr c5
      clear c5
      (first | rw [c5b0] | (simp only [i64_w, i32_w]; rw [c5b0]) | skip)
      have H' := Aside0.mk H
      clear H
      go_wp2
      go_meet
      case rel => exact ⟨_, ((a0_0 == 2)), (by first | rfl | (simp; done) | (simp [*]; done)), H', ⟨by first | omega | exact Nat.le_refl _⟩, ⟨by (with_reducible repeat (first | refine blk_drewN ?_ _ | refine blk_drew ?_ | refine blk_alloc ?_ _)); exact BK157.out⟩, ⟨by repeat (first | (with_reducible first | exact HB.out | apply below_alloc | apply pw_below_drewN | apply below_drew1 | refine below_set ?_ GE157.out) | exact HB.out)⟩⟩
    · rw [if_neg c5] at H
      have c5b0 : (a0_0 == 2) = false := beq_eq_false_iff_ne.mpr c5
      have c5b1 : (a0_0 != 2) = true := bne_iff_ne.mpr c5
      (first | rw [c5b0] | (simp only [i64_w, i32_w]; rw [c5b0]) | skip)
      by_cases c6 : a0_0 = 4
      · rw [if_pos c6] at H
        have c6b0 : (a0_0 == 4) = true := beq_iff_eq.mpr c6
        have c6b1 : (a0_0 != 4) = false := bne_eq_false_iff_eq.mpr c6
        clear c6
        have H' := Aside0.mk H
        clear H
        go_wp2
        go_meet
        case rel => exact ⟨_, ((a0_0 == 4)), (by first | rfl | (simp; done) | (simp [*]; done)), H', ⟨by first | omega | exact Nat.le_refl _⟩, ⟨by (with_reducible repeat (first | refine blk_drewN ?_ _ | refine blk_drew ?_ | refine blk_alloc ?_ _)); exact BK157.out⟩, ⟨by repeat (first | (with_reducible first | exact HB.out | apply below_alloc | apply pw_below_drewN | apply below_drew1 | refine below_set ?_ GE157.out) | exact HB.out)⟩⟩
      · rw [if_neg c6] at H
        have c6b0 : (a0_0 == 4) = false := beq_eq_false_iff_ne.mpr c6
        have c6b1 : (a0_0 != 4) = true := bne_iff_ne.mpr c6
        by_cases c7 : a0_0 = 5
        · rw [if_pos c7] at H
          have c7b0 : (a0_0 == 5) = true := beq_iff_eq.mpr c7
          have c7b1 : (a0_0 != 5) = false := bne_eq_false_iff_eq.mpr c7
          clear c7
          have H' := Aside0.mk H
          clear H
          go_wp2
          go_meet
          case rel => exact ⟨_, ((a0_0 == 5)), (by first | rfl | (simp; done) | (simp [*]; done)), H', ⟨by first | omega | exact Nat.le_refl _⟩, ⟨by (with_reducible repeat (first | refine blk_drewN ?_ _ | refine blk_drew ?_ | refine blk_alloc ?_ _)); exact BK157.out⟩, ⟨by repeat (first | (with_reducible first | exact HB.out | apply below_alloc | apply pw_below_drewN | apply below_drew1 | refine below_set ?_ GE157.out) | exact HB.out)⟩⟩
        · rw [if_neg c7] at H
          have c7b0 : (a0_0 == 5) = false := beq_eq_false_iff_ne.mpr c7
          have c7b1 : (a0_0 != 5) = true := bne_iff_ne.mpr c7
          have H' := Aside0.mk H
          clear H
          go_wp2
          go_meet
          case rel => exact ⟨_, ((a0_0 == 12)), (by first | rfl | (simp; done) | (simp [*]; done)), H', ⟨by first | omega | exact Nat.le_refl _⟩, ⟨by (with_reducible repeat (first | refine blk_drewN ?_ _ | refine blk_drew ?_ | refine blk_alloc ?_ _)); exact BK157.out⟩, ⟨by repeat (first | (with_reducible first | exact HB.out | apply below_alloc | apply pw_below_drewN | apply below_drew1 | refine below_set ?_ GE157.out) | exact HB.out)⟩⟩
  case rest =>
    clear HC2
    try clear p2
    try clear c5
    try clear c5b0
    try clear c5b1
    try clear c6
    try clear c6b0
    try clear c6b1
    try clear c7
    try clear c7b0
    try clear c7b1
    try clear hcz4_0
    try clear hcz4_1
    try clear hcz4_2
    try clear hcz4_3
    try clear hcz4_4
    try clear hcz4_5
    try clear hfz4_0
    try clear hfz4_1
    try clear hfz4_2
    try clear hfz4_3
    try clear hfz4_4
    try clear hfz4_5
    obtain ⟨kq, x5_1, rfl, HA, HJ1, BK157, HB⟩ := hcut
    cases kq with
    | zero => exact absurd HA.out (by simp [paths_Asks.j0])
    | succ kj1 =>
      have H := HA.out
      clear HA
      simp only [paths_Asks.j0] at H
      by_cases c8 : x5_1 = true
      · subst c8
        have H1 : (some (([a0_3] : List Int))) = some r := by rw [if_pos rfl] at H; exact H
        clear H
        have H := H1
        clear H1
        obtain ⟨y158, hy158⟩ : ∃ y_ : List Int, y_ = (([a0_3] : List Int)) := ⟨_, rfl⟩
        replace H : (some y158) = some r := by first | (rw [hy158]; with_reducible exact H) | (have H2_ := (Option.bind_some _ _).symm.trans H; rw [hy158]; with_reducible exact H2_) | (have H2_ := (Option.bind_some _ _).symm.trans H; with_reducible exact H2_) | with_reducible exact H | (rw [hy158]; exact H) | exact H
        have Ny158 := Aside0.mk hy158
        clear hy158
        obtain rfl := Option.some.inj H
        have hcz9_0 : wc.cell? ⟨gb157, 0, none⟩ = some (.int .u8 a0_0) := (blk_cell BK157.out 0).trans rfl
        have hcz9_1 : wc.cell? ⟨gb157, 1, none⟩ = some (.int .u8 a0_1) := (blk_cell BK157.out 1).trans rfl
        have hcz9_2 : wc.cell? ⟨gb157, 2, none⟩ = some (.int .i64 a0_2) := (blk_cell BK157.out 2).trans rfl
        have hcz9_3 : wc.cell? ⟨gb157, 3, none⟩ = some (.int .i64 a0_3) := (blk_cell BK157.out 3).trans rfl
        have hcz9_4 : wc.cell? ⟨gb157, 4, none⟩ = some (.int .i64 a0_4) := (blk_cell BK157.out 4).trans rfl
        have hcz9_5 : wc.cell? ⟨gb157, 5, none⟩ = some (.int .i64 a0_5) := (blk_cell BK157.out 5).trans rfl
        have hfz9_0 := blk_frozen BK157.out 0
        have hfz9_1 := blk_frozen BK157.out 1
        have hfz9_2 := blk_frozen BK157.out 2
        have hfz9_3 := blk_frozen BK157.out 3
        have hfz9_4 := blk_frozen BK157.out 4
        have hfz9_5 := blk_frozen BK157.out 5
        go_wp2_with (first | ((with_reducible refine gate_dst (N := 12) rfl ?_); refine Kd.R_lit (Kd.int .i64) _ 3 ?hg (N := 12) ?hd (xs := ([a0_3] : List Int)) (inner := [.int .i64 a0_3]) (ok := fun _ => True) (okp := fun _ => True) ?hr ?hp (fun _ hk => hk) trivial (Below.refl _ _) (Nat.le_refl _) (by simp) ?_; (case hd => rfl); (case hg => rfl); (case hr => first | (go_simp; done) | (go_simp; rfl)); (case hp => exact (Reps.one (show Kd.M (Kd.int .i64) _ _ _ a0_3 [.int .i64 a0_3] from rfl) (Reps.none _ _))); intro v159 w10 ho11 hb hg_ hnew_; clear hg_ hnew_; (first | rw [← Ny158.out] at ho11 | (simp only [Int.reduceToNat] at ho11; rw [← Ny158.out] at ho11)); have n0_ := Aside0.mk (Kd.R_lower ho11 (below_size (by repeat (first | (with_reducible first | exact HB.out | apply below_alloc | apply pw_below_drewN | apply below_drew1 | refine below_set ?_ GE157.out) | exact HB.out)))); have n1_ := Aside0.mk (blk_below (g := gb157) (o := .cells #[.int .u8 a0_0, .int .u8 a0_1, .int .i64 a0_2, .int .i64 a0_3, .int .i64 a0_4, .int .i64 a0_5] 46 (0, 0)) (by (with_reducible repeat (first | refine blk_drewN ?_ _ | refine blk_drew ?_ | refine blk_alloc ?_ _)); exact BK157.out) hb); have n2_ := Aside0.mk (below_step (by repeat (first | (with_reducible first | exact HB.out | apply below_alloc | apply pw_below_drewN | apply below_drew1 | refine below_set ?_ GE157.out) | exact HB.out)) hb); clear BK157; clear HB; have HO160 := n0_; have BK157 := n1_; have HB := n2_; clear n0_ n1_ n2_; clear hb ho11))
        go_ret
        exact ⟨_, by first | rfl | (simp [errW_none, errW_some] <;> rfl) | (simp [*, errW_none, errW_some] <;> rfl), by (with_reducible repeat (first | apply Kd.R_alloc | apply Kd.R_drewN | apply Kd.R_drew)); exact HO160.out, by repeat (first | (with_reducible first | exact HB.out | apply below_alloc | apply pw_below_drewN | apply below_drew1 | refine below_set ?_ GE157.out) | exact HB.out)⟩
      · replace c8 := Bool.eq_false_iff.mpr c8
        subst c8
        have H1 : (if a0_0 = 3 then (some (([a0_3, a0_4] : List Int))) else (if a0_0 = 8 then (paths_Asks.j1 kj1 a0_0 (a0_0 == 8) a0_0 a0_1 a0_2 a0_3 a0_4 a0_5) else (paths_Asks.j1 kj1 a0_0 (a0_0 == 10) a0_0 a0_1 a0_2 a0_3 a0_4 a0_5))) = some r := by rw [if_neg (show ¬ (false = true) by decide)] at H; exact H
        clear H
        have H := H1
        clear H1
        by_cases c12 : a0_0 = 3
        · rw [if_pos c12] at H
          have c12b0 : (a0_0 == 3) = true := beq_iff_eq.mpr c12
          have c12b1 : (a0_0 != 3) = false := bne_eq_false_iff_eq.mpr c12
          clear c12
          obtain ⟨y161, hy161⟩ : ∃ y_ : List Int, y_ = (([a0_3, a0_4] : List Int)) := ⟨_, rfl⟩
          replace H : (some y161) = some r := by first | (rw [hy161]; with_reducible exact H) | (have H2_ := (Option.bind_some _ _).symm.trans H; rw [hy161]; with_reducible exact H2_) | (have H2_ := (Option.bind_some _ _).symm.trans H; with_reducible exact H2_) | with_reducible exact H | (rw [hy161]; exact H) | exact H
          have Ny161 := Aside0.mk hy161
          clear hy161
          obtain rfl := Option.some.inj H
          have hcz13_0 : wc.cell? ⟨gb157, 0, none⟩ = some (.int .u8 a0_0) := (blk_cell BK157.out 0).trans rfl
          have hcz13_1 : wc.cell? ⟨gb157, 1, none⟩ = some (.int .u8 a0_1) := (blk_cell BK157.out 1).trans rfl
          have hcz13_2 : wc.cell? ⟨gb157, 2, none⟩ = some (.int .i64 a0_2) := (blk_cell BK157.out 2).trans rfl
          have hcz13_3 : wc.cell? ⟨gb157, 3, none⟩ = some (.int .i64 a0_3) := (blk_cell BK157.out 3).trans rfl
          have hcz13_4 : wc.cell? ⟨gb157, 4, none⟩ = some (.int .i64 a0_4) := (blk_cell BK157.out 4).trans rfl
          have hcz13_5 : wc.cell? ⟨gb157, 5, none⟩ = some (.int .i64 a0_5) := (blk_cell BK157.out 5).trans rfl
          have hfz13_0 := blk_frozen BK157.out 0
          have hfz13_1 := blk_frozen BK157.out 1
          have hfz13_2 := blk_frozen BK157.out 2
          have hfz13_3 := blk_frozen BK157.out 3
          have hfz13_4 := blk_frozen BK157.out 4
          have hfz13_5 := blk_frozen BK157.out 5
          go_wp2_with (first | ((with_reducible refine gate_dst (N := 19) rfl ?_); refine Kd.R_lit (Kd.int .i64) _ 3 ?hg (N := 19) ?hd (xs := ([a0_3, a0_4] : List Int)) (inner := [.int .i64 a0_3, .int .i64 a0_4]) (ok := fun _ => True) (okp := fun _ => True) ?hr ?hp (fun _ hk => hk) trivial (Below.refl _ _) (Nat.le_refl _) (by simp) ?_; (case hd => rfl); (case hg => rfl); (case hr => first | (go_simp; done) | (go_simp; rfl)); (case hp => exact (Reps.one (show Kd.M (Kd.int .i64) _ _ _ a0_3 [.int .i64 a0_3] from rfl) (Reps.one (show Kd.M (Kd.int .i64) _ _ _ a0_4 [.int .i64 a0_4] from rfl) (Reps.none _ _)))); intro v162 w14 ho15 hb hg_ hnew_; clear hg_ hnew_; (first | rw [← Ny161.out] at ho15 | (simp only [Int.reduceToNat] at ho15; rw [← Ny161.out] at ho15)); have n0_ := Aside0.mk (Kd.R_lower ho15 (below_size (by repeat (first | (with_reducible first | exact HB.out | apply below_alloc | apply pw_below_drewN | apply below_drew1 | refine below_set ?_ GE157.out) | exact HB.out)))); have n1_ := Aside0.mk (blk_below (g := gb157) (o := .cells #[.int .u8 a0_0, .int .u8 a0_1, .int .i64 a0_2, .int .i64 a0_3, .int .i64 a0_4, .int .i64 a0_5] 46 (0, 0)) (by (with_reducible repeat (first | refine blk_drewN ?_ _ | refine blk_drew ?_ | refine blk_alloc ?_ _)); exact BK157.out) hb); have n2_ := Aside0.mk (below_step (by repeat (first | (with_reducible first | exact HB.out | apply below_alloc | apply pw_below_drewN | apply below_drew1 | refine below_set ?_ GE157.out) | exact HB.out)) hb); clear BK157; clear HB; have HO163 := n0_; have BK157 := n1_; have HB := n2_; clear n0_ n1_ n2_; clear hb ho15))
          go_ret
          exact ⟨_, by first | rfl | (simp [errW_none, errW_some] <;> rfl) | (simp [*, errW_none, errW_some] <;> rfl), by (with_reducible repeat (first | apply Kd.R_alloc | apply Kd.R_drewN | apply Kd.R_drew)); exact HO163.out, by repeat (first | (with_reducible first | exact HB.out | apply below_alloc | apply pw_below_drewN | apply below_drew1 | refine below_set ?_ GE157.out) | exact HB.out)⟩
        · rw [if_neg c12] at H
          have c12b0 : (a0_0 == 3) = false := beq_eq_false_iff_ne.mpr c12
          have c12b1 : (a0_0 != 3) = true := bne_iff_ne.mpr c12
          have HC16 := Aside0.mk H
          clear H
          go_upto_if 20 with (fail)
          go_cut [20] (fun v20 wc => ∃ (kq : Nat) (x20_15 : Bool), v20 = .bool x20_15 ∧ Aside0 (paths_Asks.j1 kq a0_0 x20_15 a0_0 a0_1 a0_2 a0_3 a0_4 a0_5 = some r) ∧ Aside0 (kq ≤ kj1) ∧ Aside0 (wc.heap[gb157]? = some (.cells #[.int .u8 a0_0, .int .u8 a0_1, .int .i64 a0_2, .int .i64 a0_3, .int .i64 a0_4, .int .i64 a0_5] 46 (0, 0))) ∧ Aside0 (Below w.heap.size w wc))
          case first =>
            have H := HC16.out
            clear HC16
            by_cases c17 : a0_0 = 8
            · rw [if_pos c17] at H
              have c17b0 : (a0_0 == 8) = true := beq_iff_eq.mpr c17
              have c17b1 : (a0_0 != 8) = false := bne_eq_false_iff_eq.mpr c17
              clear c17
              (first | rw [c17b0] | (simp only [i64_w, i32_w]; rw [c17b0]) | skip)
              have H' := Aside0.mk H
              clear H
              go_wp2
              go_meet
              case rel => exact ⟨_, ((a0_0 == 8)), (by first | rfl | (simp; done) | (simp [*]; done)), H', ⟨by have := HJ1.out; first | omega | exact Nat.le_refl _⟩, ⟨by (with_reducible repeat (first | refine blk_drewN ?_ _ | refine blk_drew ?_ | refine blk_alloc ?_ _)); exact BK157.out⟩, ⟨by repeat (first | (with_reducible first | exact HB.out | apply below_alloc | apply pw_below_drewN | apply below_drew1 | refine below_set ?_ GE157.out) | exact HB.out)⟩⟩
            · rw [if_neg c17] at H
              have c17b0 : (a0_0 == 8) = false := beq_eq_false_iff_ne.mpr c17
              have c17b1 : (a0_0 != 8) = true := bne_iff_ne.mpr c17
              (first | rw [c17b0] | (simp only [i64_w, i32_w]; rw [c17b0]) | skip)
              have H' := Aside0.mk H
              clear H
              go_wp2
              go_meet
              case rel => exact ⟨_, ((a0_0 == 10)), (by first | rfl | (simp; done) | (simp [*]; done)), H', ⟨by have := HJ1.out; first | omega | exact Nat.le_refl _⟩, ⟨by (with_reducible repeat (first | refine blk_drewN ?_ _ | refine blk_drew ?_ | refine blk_alloc ?_ _)); exact BK157.out⟩, ⟨by repeat (first | (with_reducible first | exact HB.out | apply below_alloc | apply pw_below_drewN | apply below_drew1 | refine below_set ?_ GE157.out) | exact HB.out)⟩⟩
          case rest =>
            clear HC16
            try clear c1
            try clear p2
            try clear c5
            try clear c5b0
            try clear c5b1
            try clear c6
            try clear c6b0
            try clear c6b1
            try clear c7
            try clear c7b0
            try clear c7b1
            try clear c8
            try clear c9
            try clear c12
            try clear c12b0
            try clear c12b1
            try clear c17
            try clear c17b0
            try clear c17b1
            try clear hcz13_0
            try clear hcz13_1
            try clear hcz13_2
            try clear hcz13_3
            try clear hcz13_4
            try clear hcz13_5
            try clear hcz4_0
            try clear hcz4_1
            try clear hcz4_2
            try clear hcz4_3
            try clear hcz4_4
            try clear hcz4_5
            try clear hcz9_0
            try clear hcz9_1
            try clear hcz9_2
            try clear hcz9_3
            try clear hcz9_4
            try clear hcz9_5
            try clear hfz13_0
            try clear hfz13_1
            try clear hfz13_2
            try clear hfz13_3
            try clear hfz13_4
            try clear hfz13_5
            try clear hfz4_0
            try clear hfz4_1
            try clear hfz4_2
            try clear hfz4_3
            try clear hfz4_4
            try clear hfz4_5
            try clear hfz9_0
            try clear hfz9_1
            try clear hfz9_2
            try clear hfz9_3
            try clear hfz9_4
            try clear hfz9_5
            try clear p2
            obtain ⟨kq, x20_15, rfl, HA, HJ15, BK157, HB⟩ := hcut
            cases kq with
            | zero => exact absurd HA.out (by simp [paths_Asks.j1])
            | succ kj15 =>
              have H := HA.out
              clear HA
              simp only [paths_Asks.j1] at H
              by_cases c18 : x20_15 = true
              · subst c18
                have H1 : ((paths_word.f a0_0 a0_1 a0_2 a0_3 a0_4 a0_5 ([] : List Int)).bind fun t164 => (some t164)) = some r := by rw [if_pos rfl] at H; exact H
                clear H
                have H := H1
                clear H1
                replace H := Option.bind_eq_some_iff.mp H
                obtain ⟨t164, A190, H⟩ := H
                replace H : (some t164) = some r := H
                have A19 := Aside0.mk A190
                clear A190
                obtain rfl := Option.some.inj H
                have hcz20_0 : wc.cell? ⟨gb157, 0, none⟩ = some (.int .u8 a0_0) := (blk_cell BK157.out 0).trans rfl
                have hcz20_1 : wc.cell? ⟨gb157, 1, none⟩ = some (.int .u8 a0_1) := (blk_cell BK157.out 1).trans rfl
                have hcz20_2 : wc.cell? ⟨gb157, 2, none⟩ = some (.int .i64 a0_2) := (blk_cell BK157.out 2).trans rfl
                have hcz20_3 : wc.cell? ⟨gb157, 3, none⟩ = some (.int .i64 a0_3) := (blk_cell BK157.out 3).trans rfl
                have hcz20_4 : wc.cell? ⟨gb157, 4, none⟩ = some (.int .i64 a0_4) := (blk_cell BK157.out 4).trans rfl
                have hcz20_5 : wc.cell? ⟨gb157, 5, none⟩ = some (.int .i64 a0_5) := (blk_cell BK157.out 5).trans rfl
                have hfz20_0 := blk_frozen BK157.out 0
                have hfz20_1 := blk_frozen BK157.out 1
                have hfz20_2 := blk_frozen BK157.out 2
                have hfz20_3 := blk_frozen BK157.out 3
                have hfz20_4 := blk_frozen BK157.out 4
                have hfz20_5 := blk_frozen BK157.out 5
                go_wp2_with (first | ((with_reducible refine gate_callee (f := 111) rfl ?_); refine goesL_ (some 24) rfl rfl Try.func111 (by kernel_rfl) rfl #[.agg #[.int .u8 a0_0, .int .u8 a0_1, .int .i64 a0_2, .int .i64 a0_3, .int .i64 a0_4, .int .i64 a0_5], .slice none 0 0] rfl (by (try simp only [List.map_toArray, List.map_cons, List.map_nil]); first | done | rfl | (simp only [List.length_drop, List.length_take]; rfl)) ?_; (refine (paths_word.calls a0_0 a0_1 a0_2 a0_3 a0_4 a0_5 (fun k_ => some k_ = (.slice none 0 0 : Value).ownBlock) (.slice none 0 0) ([] : List Int) t164 w _ ?side1 ?side2 A19.out).mono ?_); (case side1 => repeat (first | (with_reducible first | exact HB.out | apply below_alloc | apply pw_below_drewN | apply below_drew1 | refine below_set ?_ GE157.out) | exact HB.out)); (case side2 => exact Kd.R_nil _ _ _ _ _); rintro e w21 ⟨v165, rfl, ho0, hb, hkp⟩; refine ⟨_, rfl, ?_⟩; have n0_ := Aside0.mk (blk_kept (by (with_reducible repeat (first | refine blk_drewN ?_ _ | refine blk_drew ?_ | refine blk_alloc ?_ _)); exact BK157.out) hkp (fun hs_ => (fun e_ => by simp [Value.ownBlock] at e_) hs_)); have n1_ := Aside0.mk (Kd.R_mono (ok' := fun k_ => True) ho0 (fun k_ hk_ => trivial)); have n2_ := Aside0.mk (hb); clear BK157; clear HB; have BK157 := n0_; have HO166 := n1_; have HB := n2_; clear n0_ n1_ n2_; (try clear hb); (try clear hkp); (try clear ho0)))
                go_ret
                exact ⟨_, by first | rfl | (simp [errW_none, errW_some] <;> rfl) | (simp [*, errW_none, errW_some] <;> rfl), by (with_reducible repeat (first | apply Kd.R_alloc | apply Kd.R_drewN | apply Kd.R_drew)); exact HO166.out, by repeat (first | (with_reducible first | exact HB.out | apply below_alloc | apply pw_below_drewN | apply below_drew1 | refine below_set ?_ GE157.out) | exact HB.out)⟩
              · replace c18 := Bool.eq_false_iff.mpr c18
                subst c18
                have H1 : (if a0_0 = 9 then ((paths_word.f a0_0 a0_1 a0_2 a0_3 a0_4 a0_5 (([a0_2] : List Int))).bind fun t170 => (some t170)) else (if a0_0 = 11 then ((paths_word.f a0_0 a0_1 a0_2 a0_3 a0_4 a0_5 (([a0_2] : List Int))).bind fun t176 => (some t176)) else (some ([] : List Int)))) = some r := by rw [if_neg (show ¬ (false = true) by decide)] at H; exact H
                clear H
                have H := H1
                clear H1
                by_cases c22 : a0_0 = 9
                · rw [if_pos c22] at H
                  have c22b0 : (a0_0 == 9) = true := beq_iff_eq.mpr c22
                  have c22b1 : (a0_0 != 9) = false := bne_eq_false_iff_eq.mpr c22
                  clear c22
                  obtain ⟨y167, hy167⟩ : ∃ y_ : List Int, y_ = (([a0_2] : List Int)) := ⟨_, rfl⟩
                  replace H : ((paths_word.f a0_0 a0_1 a0_2 a0_3 a0_4 a0_5 y167).bind fun t170 => (some t170)) = some r := by first | (rw [hy167]; with_reducible exact H) | (have H2_ := (Option.bind_some _ _).symm.trans H; rw [hy167]; with_reducible exact H2_) | (have H2_ := (Option.bind_some _ _).symm.trans H; with_reducible exact H2_) | with_reducible exact H | (rw [hy167]; exact H) | exact H
                  have Ny167 := Aside0.mk hy167
                  clear hy167
                  replace H := Option.bind_eq_some_iff.mp H
                  obtain ⟨t170, A230, H⟩ := H
                  replace H : (some t170) = some r := H
                  have A23 := Aside0.mk A230
                  clear A230
                  obtain rfl := Option.some.inj H
                  have hcz24_0 : wc.cell? ⟨gb157, 0, none⟩ = some (.int .u8 a0_0) := (blk_cell BK157.out 0).trans rfl
                  have hcz24_1 : wc.cell? ⟨gb157, 1, none⟩ = some (.int .u8 a0_1) := (blk_cell BK157.out 1).trans rfl
                  have hcz24_2 : wc.cell? ⟨gb157, 2, none⟩ = some (.int .i64 a0_2) := (blk_cell BK157.out 2).trans rfl
                  have hcz24_3 : wc.cell? ⟨gb157, 3, none⟩ = some (.int .i64 a0_3) := (blk_cell BK157.out 3).trans rfl
                  have hcz24_4 : wc.cell? ⟨gb157, 4, none⟩ = some (.int .i64 a0_4) := (blk_cell BK157.out 4).trans rfl
                  have hcz24_5 : wc.cell? ⟨gb157, 5, none⟩ = some (.int .i64 a0_5) := (blk_cell BK157.out 5).trans rfl
                  have hfz24_0 := blk_frozen BK157.out 0
                  have hfz24_1 := blk_frozen BK157.out 1
                  have hfz24_2 := blk_frozen BK157.out 2
                  have hfz24_3 := blk_frozen BK157.out 3
                  have hfz24_4 := blk_frozen BK157.out 4
                  have hfz24_5 := blk_frozen BK157.out 5
                  go_wp2_with (first | ((with_reducible refine gate_dst (N := 31) rfl ?_); refine Kd.R_lit (Kd.int .i64) _ 3 ?hg (N := 31) ?hd (xs := ([a0_2] : List Int)) (inner := [.int .i64 a0_2]) (ok := fun _ => True) (okp := fun _ => True) ?hr ?hp (fun _ hk => hk) trivial (Below.refl _ _) (Nat.le_refl _) (by simp) ?_; (case hd => rfl); (case hg => rfl); (case hr => first | (go_simp; done) | (go_simp; rfl)); (case hp => exact (Reps.one (show Kd.M (Kd.int .i64) _ _ _ a0_2 [.int .i64 a0_2] from rfl) (Reps.none _ _))); intro v168 w25 ho26 hb hg_ hnew_; clear hg_ hnew_; (first | rw [← Ny167.out] at ho26 | (simp only [Int.reduceToNat] at ho26; rw [← Ny167.out] at ho26)); have n0_ := Aside0.mk (Kd.R_lower ho26 (below_size (by repeat (first | (with_reducible first | exact HB.out | apply below_alloc | apply pw_below_drewN | apply below_drew1 | refine below_set ?_ GE157.out) | exact HB.out)))); have n1_ := Aside0.mk (blk_below (g := gb157) (o := .cells #[.int .u8 a0_0, .int .u8 a0_1, .int .i64 a0_2, .int .i64 a0_3, .int .i64 a0_4, .int .i64 a0_5] 46 (0, 0)) (by (with_reducible repeat (first | refine blk_drewN ?_ _ | refine blk_drew ?_ | refine blk_alloc ?_ _)); exact BK157.out) hb); have n2_ := Aside0.mk (below_step (by repeat (first | (with_reducible first | exact HB.out | apply below_alloc | apply pw_below_drewN | apply below_drew1 | refine below_set ?_ GE157.out) | exact HB.out)) hb); clear BK157; clear HB; have HO169 := n0_; have BK157 := n1_; have HB := n2_; clear n0_ n1_ n2_; clear hb ho26; obtain ⟨Ao27, co27, eo27⟩ := Kd.R_slice HO169.out; subst eo27) | ((with_reducible refine gate_callee (f := 111) rfl ?_); refine goesL_ (some 32) rfl rfl Try.func111 (by kernel_rfl) rfl #[.agg #[.int .u8 a0_0, .int .u8 a0_1, .int .i64 a0_2, .int .i64 a0_3, .int .i64 a0_4, .int .i64 a0_5], .slice Ao27 y167.length co27] rfl (by (try simp only [List.map_toArray, List.map_cons, List.map_nil]); first | done | rfl | (simp only [List.length_drop, List.length_take]; rfl)) ?_; (with_reducible refine (paths_word.calls a0_0 a0_1 a0_2 a0_3 a0_4 a0_5 (fun k_ => some k_ = (.slice Ao27 y167.length co27 : Value).ownBlock) (.slice Ao27 y167.length co27) y167 t170 w _ ?side1 ?side2 A23.out).mono ?_); (case side1 => repeat (first | (with_reducible first | exact HB.out | apply below_alloc | apply pw_below_drewN | apply below_drew1 | refine below_set ?_ GE157.out) | exact HB.out)); (case side2 => exact Kd.R_tight rfl HO169.out); rintro e w28 ⟨v171, rfl, ho0, hb, hkp⟩; refine ⟨_, rfl, ?_⟩; have n0_ := Aside0.mk (blk_kept (by (with_reducible repeat (first | refine blk_drewN ?_ _ | refine blk_drew ?_ | refine blk_alloc ?_ _)); exact BK157.out) hkp (fun hs_ => (fun e_ => (Kd.R_ne HO169.out BK157.out (by decide)) e_) hs_)); have n1_ := Aside0.mk (Kd.R_mono (ok' := fun k_ => True) ho0 (fun k_ hk_ => trivial)); have n2_ := Aside0.mk (hb); clear BK157; clear HB; clear HO169; have BK157 := n0_; have HO172 := n1_; have HB := n2_; clear n0_ n1_ n2_; (try clear hb); (try clear hkp); (try clear ho0)))
                  go_ret
                  exact ⟨_, by first | rfl | (simp [errW_none, errW_some] <;> rfl) | (simp [*, errW_none, errW_some] <;> rfl), by (with_reducible repeat (first | apply Kd.R_alloc | apply Kd.R_drewN | apply Kd.R_drew)); exact HO172.out, by repeat (first | (with_reducible first | exact HB.out | apply below_alloc | apply pw_below_drewN | apply below_drew1 | refine below_set ?_ GE157.out) | exact HB.out)⟩
                · rw [if_neg c22] at H
                  have c22b0 : (a0_0 == 9) = false := beq_eq_false_iff_ne.mpr c22
                  have c22b1 : (a0_0 != 9) = true := bne_iff_ne.mpr c22
                  by_cases c29 : a0_0 = 11
                  · rw [if_pos c29] at H
                    have c29b0 : (a0_0 == 11) = true := beq_iff_eq.mpr c29
                    have c29b1 : (a0_0 != 11) = false := bne_eq_false_iff_eq.mpr c29
                    clear c29
                    obtain ⟨y173, hy173⟩ : ∃ y_ : List Int, y_ = (([a0_2] : List Int)) := ⟨_, rfl⟩
                    replace H : ((paths_word.f a0_0 a0_1 a0_2 a0_3 a0_4 a0_5 y173).bind fun t176 => (some t176)) = some r := by first | (rw [hy173]; with_reducible exact H) | (have H2_ := (Option.bind_some _ _).symm.trans H; rw [hy173]; with_reducible exact H2_) | (have H2_ := (Option.bind_some _ _).symm.trans H; with_reducible exact H2_) | with_reducible exact H | (rw [hy173]; exact H) | exact H
                    have Ny173 := Aside0.mk hy173
                    clear hy173
                    replace H := Option.bind_eq_some_iff.mp H
                    obtain ⟨t176, A300, H⟩ := H
                    replace H : (some t176) = some r := H
                    have A30 := Aside0.mk A300
                    clear A300
                    obtain rfl := Option.some.inj H
                    have hcz31_0 : wc.cell? ⟨gb157, 0, none⟩ = some (.int .u8 a0_0) := (blk_cell BK157.out 0).trans rfl
                    have hcz31_1 : wc.cell? ⟨gb157, 1, none⟩ = some (.int .u8 a0_1) := (blk_cell BK157.out 1).trans rfl
                    have hcz31_2 : wc.cell? ⟨gb157, 2, none⟩ = some (.int .i64 a0_2) := (blk_cell BK157.out 2).trans rfl
                    have hcz31_3 : wc.cell? ⟨gb157, 3, none⟩ = some (.int .i64 a0_3) := (blk_cell BK157.out 3).trans rfl
                    have hcz31_4 : wc.cell? ⟨gb157, 4, none⟩ = some (.int .i64 a0_4) := (blk_cell BK157.out 4).trans rfl
                    have hcz31_5 : wc.cell? ⟨gb157, 5, none⟩ = some (.int .i64 a0_5) := (blk_cell BK157.out 5).trans rfl
                    have hfz31_0 := blk_frozen BK157.out 0
                    have hfz31_1 := blk_frozen BK157.out 1
                    have hfz31_2 := blk_frozen BK157.out 2
                    have hfz31_3 := blk_frozen BK157.out 3
                    have hfz31_4 := blk_frozen BK157.out 4
                    have hfz31_5 := blk_frozen BK157.out 5
                    go_wp2_with (first | ((with_reducible refine gate_dst (N := 31) rfl ?_); refine Kd.R_lit (Kd.int .i64) _ 3 ?hg (N := 31) ?hd (xs := ([a0_2] : List Int)) (inner := [.int .i64 a0_2]) (ok := fun _ => True) (okp := fun _ => True) ?hr ?hp (fun _ hk => hk) trivial (Below.refl _ _) (Nat.le_refl _) (by simp) ?_; (case hd => rfl); (case hg => rfl); (case hr => first | (go_simp; done) | (go_simp; rfl)); (case hp => exact (Reps.one (show Kd.M (Kd.int .i64) _ _ _ a0_2 [.int .i64 a0_2] from rfl) (Reps.none _ _))); intro v174 w32 ho33 hb hg_ hnew_; clear hg_ hnew_; (first | rw [← Ny173.out] at ho33 | (simp only [Int.reduceToNat] at ho33; rw [← Ny173.out] at ho33)); have n0_ := Aside0.mk (Kd.R_lower ho33 (below_size (by repeat (first | (with_reducible first | exact HB.out | apply below_alloc | apply pw_below_drewN | apply below_drew1 | refine below_set ?_ GE157.out) | exact HB.out)))); have n1_ := Aside0.mk (blk_below (g := gb157) (o := .cells #[.int .u8 a0_0, .int .u8 a0_1, .int .i64 a0_2, .int .i64 a0_3, .int .i64 a0_4, .int .i64 a0_5] 46 (0, 0)) (by (with_reducible repeat (first | refine blk_drewN ?_ _ | refine blk_drew ?_ | refine blk_alloc ?_ _)); exact BK157.out) hb); have n2_ := Aside0.mk (below_step (by repeat (first | (with_reducible first | exact HB.out | apply below_alloc | apply pw_below_drewN | apply below_drew1 | refine below_set ?_ GE157.out) | exact HB.out)) hb); clear BK157; clear HB; have HO175 := n0_; have BK157 := n1_; have HB := n2_; clear n0_ n1_ n2_; clear hb ho33; obtain ⟨Ao34, co34, eo34⟩ := Kd.R_slice HO175.out; subst eo34) | ((with_reducible refine gate_callee (f := 111) rfl ?_); refine goesL_ (some 32) rfl rfl Try.func111 (by kernel_rfl) rfl #[.agg #[.int .u8 a0_0, .int .u8 a0_1, .int .i64 a0_2, .int .i64 a0_3, .int .i64 a0_4, .int .i64 a0_5], .slice Ao34 y173.length co34] rfl (by (try simp only [List.map_toArray, List.map_cons, List.map_nil]); first | done | rfl | (simp only [List.length_drop, List.length_take]; rfl)) ?_; (with_reducible refine (paths_word.calls a0_0 a0_1 a0_2 a0_3 a0_4 a0_5 (fun k_ => some k_ = (.slice Ao34 y173.length co34 : Value).ownBlock) (.slice Ao34 y173.length co34) y173 t176 w _ ?side1 ?side2 A30.out).mono ?_); (case side1 => repeat (first | (with_reducible first | exact HB.out | apply below_alloc | apply pw_below_drewN | apply below_drew1 | refine below_set ?_ GE157.out) | exact HB.out)); (case side2 => exact Kd.R_tight rfl HO175.out); rintro e w35 ⟨v177, rfl, ho0, hb, hkp⟩; refine ⟨_, rfl, ?_⟩; have n0_ := Aside0.mk (blk_kept (by (with_reducible repeat (first | refine blk_drewN ?_ _ | refine blk_drew ?_ | refine blk_alloc ?_ _)); exact BK157.out) hkp (fun hs_ => (fun e_ => (Kd.R_ne HO175.out BK157.out (by decide)) e_) hs_)); have n1_ := Aside0.mk (Kd.R_mono (ok' := fun k_ => True) ho0 (fun k_ hk_ => trivial)); have n2_ := Aside0.mk (hb); clear BK157; clear HB; clear HO175; have BK157 := n0_; have HO178 := n1_; have HB := n2_; clear n0_ n1_ n2_; (try clear hb); (try clear hkp); (try clear ho0)))
                    go_ret
                    exact ⟨_, by first | rfl | (simp [errW_none, errW_some] <;> rfl) | (simp [*, errW_none, errW_some] <;> rfl), by (with_reducible repeat (first | apply Kd.R_alloc | apply Kd.R_drewN | apply Kd.R_drew)); exact HO178.out, by repeat (first | (with_reducible first | exact HB.out | apply below_alloc | apply pw_below_drewN | apply below_drew1 | refine below_set ?_ GE157.out) | exact HB.out)⟩
                  · rw [if_neg c29] at H
                    have c29b0 : (a0_0 == 11) = false := beq_eq_false_iff_ne.mpr c29
                    have c29b1 : (a0_0 != 11) = true := bne_iff_ne.mpr c29
                    obtain rfl := Option.some.inj H
                    go_wp2
                    go_ret
                    exact ⟨_, by first | rfl | (simp [errW_none, errW_some] <;> rfl) | (simp [*, errW_none, errW_some] <;> rfl), by first | exact Kd.R_nil _ _ _ _ _ | exact Kd.N_nil _ _ _ _ _ | exact Kd.V_nil _ _ _ _ _ | exact Kd.Q_nil _ _ _ _ _ | exact Kd.S_nil _ _ _ _ _, by repeat (first | (with_reducible first | exact HB.out | apply below_alloc | apply pw_below_drewN | apply below_drew1 | refine below_set ?_ GE157.out) | exact HB.out)⟩
end Go.Proofs.Ytjmeignhhheckaa.Q
namespace Go.Proofs.Ytjmeignhhheckaa.H
open Go.RowKit Go.Maps Go.Proofs.YtjmeignhhheckaaW.PrintWords Go.Proofs.YtjmeignhhheckaaW.PrintLast Go.Proofs.Ytjmeignhhheckaa.Q
set_option maxRecDepth 100000
def chgS (x : S46) : Int × Bool := if x.f0 = 1 ∨ x.f0 = 2 ∨ x.f0 = 3 ∨ x.f0 = 6 ∨ x.f0 = 7 ∨ x.f0 = 8 ∨ x.f0 = 10 then (x.f2, true) else (0, false)
theorem chg_f (x : S46) : paths_Changes.f x.f0 x.f1 x.f2 x.f3 x.f4 x.f5 = some (chgS x) := by
  unfold paths_Changes.f chgS
  by_cases a : x.f0 = 1
  · simp [a]
  by_cases b : x.f0 = 2
  · simp [b]
  by_cases c : x.f0 = 3
  · simp [c]
  by_cases d : x.f0 = 6
  · simp [d]
  by_cases e : x.f0 = 7
  · simp [e]
  by_cases f : x.f0 = 8
  · simp [f]
  by_cases g : x.f0 = 10
  · simp [g]
  simp [a, b, c, d, e, f, g]
def asksS (x : S46) : List Int :=
  if x.f0 = 2 ∨ x.f0 = 4 ∨ x.f0 = 5 ∨ x.f0 = 12 then [x.f3] else if x.f0 = 3 then [x.f3, x.f4]
  else if x.f0 = 8 ∨ x.f0 = 10 then (if 0 ≤ x.f4 then [x.f3, x.f4] else [x.f3])
  else if x.f0 = 9 ∨ x.f0 = 11 then (if 0 ≤ x.f4 then [x.f2, x.f3, x.f4] else [x.f2, x.f3]) else []
theorem word_f (a b c d e f : Int) (l : List Int) (hl : l.length < 1000) : paths_word.f a b c d e f l = some (if 0 ≤ e then l ++ [d, e] else l ++ [d]) := by
  unfold paths_word.f
  rw [if_pos (by omega)]
  by_cases h : 0 ≤ e
  · simp [h]
    omega
  · simp [h]
theorem asks_f (x : S46) : paths_Asks.f 2 x.f0 x.f1 x.f2 x.f3 x.f4 x.f5 = some (asksS x) := by
  unfold paths_Asks.f asksS
  by_cases a : x.f0 = 2
  · simp [a, paths_Asks.j0]
  by_cases b : x.f0 = 4
  · simp [b, paths_Asks.j0]
  by_cases c : x.f0 = 5
  · simp [c, paths_Asks.j0]
  by_cases d : x.f0 = 12
  · simp [d, paths_Asks.j0]
  by_cases e : x.f0 = 3
  · simp [e, paths_Asks.j0]
  by_cases f : x.f0 = 8
  · simp [f, paths_Asks.j0, paths_Asks.j1, word_f]
  by_cases g : x.f0 = 10
  · simp [g, paths_Asks.j0, paths_Asks.j1, word_f]
  by_cases h : x.f0 = 9
  · simp [h, paths_Asks.j0, paths_Asks.j1, word_f]
  by_cases i : x.f0 = 11
  · simp [i, paths_Asks.j0, paths_Asks.j1, word_f]
  simp [a, b, c, d, e, f, g, h, i, paths_Asks.j0, paths_Asks.j1]
theorem asks_calls (x : S46) (w : World) :
    Calls Try.prog 93 #[.agg #[.int .u8 x.f0, .int .u8 x.f1, .int .i64 x.f2, .int .i64 x.f3, .int .i64 x.f4, .int .i64 x.f5]] w fun e w' => ∃ v, e = .returned v ∧ Kd.R (Kd.int .i64) 3 w' w.heap.size (fun _ => True) v (asksS x) ∧ Below w.heap.size w w' :=
  paths_Asks.calls 2 x.f0 x.f1 x.f2 x.f3 x.f4 x.f5 _ w (asks_f x)
theorem chg_calls (x : S46) (w : World) :
    Calls Try.prog 62 #[.agg #[.int .u8 x.f0, .int .u8 x.f1, .int .i64 x.f2, .int .i64 x.f3, .int .i64 x.f4, .int .i64 x.f5]] w fun e w' => e = .returned (.tuple #[.int .i64 (chgS x).1, .bool (chgS x).2]) ∧ Below w.heap.size w w' :=
  paths_Changes.calls x.f0 x.f1 x.f2 x.f3 x.f4 x.f5 _ _ w (chg_f x)
def zeroW : List Nat := List.replicate 16 0
theorem okW_zero : okW zeroW := ⟨rfl, fun x hx => by rw [zeroW, List.mem_replicate] at hx; rw [hx.2]; decide⟩
structure SR (w : World) (g : Nat) (xs : List (List Nat)) : Prop where
  cells : ∃ C, w.heap[g]? = some (.cells C 98 (0, 0)) ∧ C.size = 16 * xs.length ∧ ∀ i j, i < xs.length → j < 16 → C[16 * i + j]? = some (wv ((xs.getD i []).getD j 0))
  ok : ∀ x ∈ xs, okW x
theorem SR.range {w : World} {g : Nat} {xs : List (List Nat)} (h : SR w g xs) (i : Nat) (hi : i < xs.length) : w.rangeAt g (16 * i) ((xs.getD i []).map wv) := by
  obtain ⟨C, hC, hs, hv⟩ := h.cells
  have hok : okW (xs.getD i []) := by
    rw [List.getD_eq_getElem?_getD, List.getElem?_eq_getElem hi]
    exact h.ok _ (List.getElem_mem hi)
  intro j v hj
  have hj2 : j < 16 := by
    have := (List.getElem?_eq_some_iff.1 hj).1
    rwa [List.length_map, hok.1] at this
  rw [blk_cell hC, hv i j hi hj2]
  rw [List.getElem?_map] at hj
  rw [← hj, List.getD_eq_getElem?_getD]
  cases hq : (xs.getD i [])[j]? with
  | none => rw [hq] at hj; cases hj
  | some u => rfl
theorem SR.okAt {w : World} {g : Nat} {xs : List (List Nat)} (h : SR w g xs) (i : Nat) (hi : i < xs.length) : okW (xs.getD i []) := by
  rw [List.getD_eq_getElem?_getD, List.getElem?_eq_getElem hi]
  exact h.ok _ (List.getElem_mem hi)
theorem SR.below {w w' : World} {g : Nat} {xs : List (List Nat)} (h : SR w g xs) {n : Nat} (hb : Below n w w') (hg : g < n) : SR w' g xs := by
  obtain ⟨C, hC, r⟩ := h.cells
  exact ⟨⟨C, (hb.block _ hg).trans hC, r⟩, h.ok⟩
def stepW (x : S46) (s : List Nat) : List Nat := (asksS x).foldl (fun s r => putW s r.toNat) (if (chgS x).2 then dropW s (chgS x).1.toNat else s)
def endW (b : S36) (ins : List (List Nat)) : List Nat :=
  let s := (nexts b).foldl (fun s t => withW s (ins.getD t.toNat [])) zeroW
  if b.f1 = 2 then putW s b.f2.toNat else s
def aheadW (b : S36) (k : Nat) (ins : List (List Nat)) : List Nat := (b.f0.drop k).foldr stepW (endW b ins)
def regOk (x : S46) : Prop := ((chgS x).2 = true → 0 ≤ (chgS x).1 ∧ (chgS x).1 < 1024) ∧ ∀ r ∈ asksS x, 0 ≤ r ∧ r < 1024
def putsC : Array Value → Nat → List Value → Array Value
  | C, _, [] => C
  | C, o, v :: r => putsC (C.setIfInBounds o v) (o + 1) r
theorem blk_puts (g : Nat) {t : TypeId} : ∀ (vs : List Value) (o : Nat) (C : Array Value) (w : World), w.heap[g]? = some (.cells C t (0, 0)) → (w.setCells g o vs).heap[g]? = some (.cells (putsC C o vs) t (0, 0))
  | [], _, _, _, h => h
  | v :: r, o, _, w, h => blk_puts g r (o + 1) _ (w.setCell ⟨g, o, none⟩ v) (blk_put h o v rfl)
theorem grown_puts (g : Nat) : ∀ (vs : List Value) (o : Nat) (w : World), w.grownBy (w.setCells g o vs) (some g)
  | [], _, w => World.grownBy.refl w _
  | v :: r, o, w => (grown_put1 o v).trans (grown_puts g r (o + 1) _)
theorem putsC_get : ∀ (vs : List Value) (o : Nat) (C : Array Value) (k : Nat), (putsC C o vs)[k]? = if o ≤ k ∧ k < o + vs.length ∧ k < C.size then vs[k - o]? else C[k]?
  | [], o, C, k => by
    rw [putsC, if_neg]
    simp
    omega
  | v :: r, o, C, k => by
    rw [putsC, putsC_get r (o + 1)]
    by_cases e : k = o
    · subst e
      rw [if_neg (by omega)]
      by_cases hk : k < C.size
      · rw [if_pos ⟨Nat.le_refl _, by simp, hk⟩]
        simp [hk]
      · rw [if_neg (by omega)]
        simp [hk]
    · by_cases hk : o + 1 ≤ k ∧ k < o + 1 + r.length ∧ k < (C.setIfInBounds o v).size
      · rw [if_pos hk, if_pos ⟨by omega, by simp only [List.length_cons]; omega, by simpa using hk.2.2⟩]
        rw [show k - o = (k - (o + 1)) + 1 from by omega, List.getElem?_cons_succ]
      · rw [if_neg hk, if_neg (by simp only [List.length_cons, Array.size_setIfInBounds] at hk ⊢; omega)]
        rw [Array.getElem?_setIfInBounds_ne (by omega)]
theorem putsC_size : ∀ (vs : List Value) (o : Nat) (C : Array Value), (putsC C o vs).size = C.size
  | [], _, _ => rfl
  | v :: r, o, C => by rw [putsC, putsC_size r]; simp
theorem putsC_all (C : Array Value) (vs : List Value) (h : C.size = vs.length) : putsC C 0 vs = vs.toArray := by
  apply Array.ext_getElem?
  intro k
  rw [putsC_get]
  by_cases hk : k < vs.length
  · rw [if_pos ⟨by omega, by omega, by omega⟩]
    simp
  · rw [if_neg (by omega), Array.getElem?_eq_none (by omega), Array.getElem?_eq_none (by simpa using hk)]
theorem SB.puts {w : World} {g : Nat} {a b : List Nat} (h : SB w g a) (ha : okW a) (hb : okW b) : SB (w.setCells g 0 (b.map wv)) g b := by
  have := blk_puts g (b.map wv) 0 _ w h
  rw [putsC_all _ _ (by simp [ha.1, hb.1])] at this
  exact this
theorem SB.there {w : World} {g : Nat} {a : List Nat} (h : SB w g a) (ha : okW a) : w.there g 0 16 := fun j hj => by
  rw [Nat.zero_add]
  exact ⟨by rw [h.cell j (by rw [ha.1]; exact hj)]; rfl, blk_frozen h j⟩
structure LFr (w : World) (G : Array Value) (s : List Nat) (wr : World) : Prop where
  b : Below w.heap.size w wr
  c0 : wr.heap[w.heap.size]? = some (.cells G 36 (0, 0))
  c1 : SB wr (w.heap.size + 1) zeroW
  c2 : SB wr (w.heap.size + 2) s
  ok : okW s
theorem LFr.below {w : World} {G : Array Value} {s : List Nat} {wr wr' : World} (h : LFr w G s wr) (hb : Below wr.heap.size wr wr') : LFr w G s wr' := ⟨below_step h.b hb, blk_below h.c0 hb, blk_below h.c1 hb, blk_below h.c2 hb, h.ok⟩
theorem LFr.alloc {w : World} {G : Array Value} {s : List Nat} {wr : World} (h : LFr w G s wr) (o : Obj) : LFr w G s (wr.alloc o) := h.below ((Below.refl _ wr).alloc (Nat.le_refl _) o)
theorem LFr.step {w : World} {G : Array Value} {s s' : List Nat} {wr wr' : World} (h : LFr w G s wr) (hg : wr.grownBy wr' (some (w.heap.size + 2))) (hs : SB wr' (w.heap.size + 2) s') (ho : okW s') : LFr w G s' wr' :=
  ⟨h.b.grown hg h.b.size (fun k hk => by cases hk; omega), blk_grown h.c0 hg (fun e => by have := Option.some.inj e; omega), h.c1.grown hg (fun e => by have := Option.some.inj e; omega), hs, ho⟩
theorem R_grown_SB {w w1 : World} {gs : Nat} {ws : List Nat} {base : Nat} {ok : Nat → Prop} {v : Value} {xs : List Int} (h : Kd.R (Kd.int .i64) 3 w base ok v xs) (hs : SB w gs ws) (hg : w.grownBy w1 (some gs)) : Kd.R (Kd.int .i64) 3 w1 base ok v xs := by
  have ho := Kd.own_of_R h
  refine Kd.R_of_own (own_move ho (fun q hq => ?_)) h.1
  obtain ⟨cs, hcs⟩ := own_typed ho q hq
  have hne : q ≠ gs := by
    intro e
    subst e
    rw [hs] at hcs
    cases hcs
  exact hg.block q (blk_lt hcs) (fun e => hne (Option.some.inj e))
theorem take_snoc_int (l : List Int) (q : Nat) (h : q < l.length) : l.take (q + 1) = l.take q ++ [l.getD q 0] := by
  rw [List.take_succ_eq_append_getElem h]
  simp [h]
set_option maxHeartbeats 4000000 in
theorem ahead_calls (A : Option Addr) (c : Nat) (b : S36) (k g cp : Nat) (ins : List (List Nat)) (w : World) (h0 : Kd.C k46 w A b.f0.length b.f0) (hc : b.f0.length ≤ c) (hI : SR w g ins)
    (hg : g < w.heap.size) (hil : ins.length ≤ cp) (hnx : ∀ t ∈ nexts b, 0 ≤ t ∧ t < ins.length) (hb : b.f1 = 2 → 0 ≤ b.f2 ∧ b.f2 < 1024) (hr : ∀ x ∈ b.f0, regOk x) (hk : k ≤ b.f0.length) :
    Calls Try.prog 60 #[.agg #[.slice A b.f0.length c, .int .u8 b.f1, .int .i64 b.f2, .int .i64 b.f3, .int .i64 b.f4], .int .i64 k, .slice (some ⟨g, 0, none⟩) ins.length cp] w
      fun e w' => e = .returned (.agg ((aheadW b k ins).map wv).toArray) ∧ okW (aheadW b k ins) ∧ Below w.heap.size w w' := by
  have HC := Lib.hid h0
  have HI := Lib.hid hI
  have HNX := Lib.hid hnx
  have HB2 := Lib.hid hb
  have HR := Lib.hid hr
  have HLC := Lib.hid hc
  clear h0 hI hnx hb hr hc
  have HF := Lib.hid (show LFr w #[.slice A b.f0.length c, .int .u8 b.f1, .int .i64 b.f2, .int .i64 b.f3, .int .i64 b.f4] zeroW (((w.alloc (.cells #[.slice A b.f0.length c, .int .u8 b.f1, .int .i64 b.f2, .int .i64 b.f3, .int .i64 b.f4] 36)).alloc (.cells (zeroW.map wv).toArray 98)).alloc (.cells (zeroW.map wv).toArray 98)) from
    ⟨below_alloc (below_alloc (below_alloc (Below.refl _ _) _) _) _, blk_alloc (blk_alloc (blk_new _ _) _) _,
     by have := blk_alloc (blk_new (w.alloc (.cells #[.slice A b.f0.length c, .int .u8 b.f1, .int .i64 b.f2, .int .i64 b.f3, .int .i64 b.f4] 36)) (.cells (zeroW.map wv).toArray 98)) (.cells (zeroW.map wv).toArray 98); rwa [show (w.alloc (.cells #[.slice A b.f0.length c, .int .u8 b.f1, .int .i64 b.f2, .int .i64 b.f3, .int .i64 b.f4] 36)).heap.size = w.heap.size + 1 from by simp] at this,
     by have := blk_new ((w.alloc (.cells #[.slice A b.f0.length c, .int .u8 b.f1, .int .i64 b.f2, .int .i64 b.f3, .int .i64 b.f4] 36)).alloc (.cells (zeroW.map wv).toArray 98)) (.cells (zeroW.map wv).toArray 98); rwa [show ((w.alloc (.cells #[.slice A b.f0.length c, .int .u8 b.f1, .int .i64 b.f2, .int .i64 b.f3, .int .i64 b.f4] 36)).alloc (.cells (zeroW.map wv).toArray 98)).heap.size = w.heap.size + 2 from by simp] at this,
     okW_zero⟩)
  have hz : (zeroW.map wv).toArray = Array.replicate 16 (.int .u64 0) := rfl
  go_enter Try.func60, Try.ntmps60
  go_wp2_with (go_at_call 64; go_loud (refine (next_calls A c b _ (Kd.C_below HC.out (by exact HF.out.b)) HLC.out).mono ?_; rintro e w1 ⟨v, rfl, hR1, hb1⟩; have HF1 := Lib.hid (HF.out.below (by exact hb1)); have HN := Lib.hid (Kd.R_lower hR1 (show w.heap.size ≤ _ from HF.out.b.size)); clear hb1 hR1; obtain ⟨A5, c5, hv5, hc5, hC5⟩ := Kd.R_reads HN.out; clear hC5; subst hv5))
  clear HF hz
  have hn2 := nexts_len b
  go_loopw [18] (fun j wr => ∃ q : Nat, q ≤ (nexts b).length ∧ j = .int .i64 q ∧ LFr w #[.slice A b.f0.length c, .int .u8 b.f1, .int .i64 b.f2, .int .i64 b.f3, .int .i64 b.f4] (((nexts b).take q).foldl (fun s t => withW s (ins.getD t.toNat [])) zeroW) wr ∧ Kd.R (Kd.int .i64) 3 wr w.heap.size (fun _ => True) (.slice A5 (nexts b).length c5) (nexts b)) (fun j _ => (nexts b).length - (intOf j).toNat)
  case atStart => exact ⟨0, Nat.zero_le _, rfl, HF1.out, HN.out⟩
  case round =>
    clear HF1 HN
    obtain ⟨q, hq, rfl, hF, hN⟩ := hrel
    have HF := Lib.hid hF
    have HN := Lib.hid hN
    clear hF hN
    by_cases hlt : q < (nexts b).length
    · obtain ⟨A6, c6, hv6, hc6, hC6⟩ := Kd.R_reads HN.out
      have hA6 : A6 = A5 := by injection hv6 with e; exact e.symm
      subst hA6
      obtain ⟨ad6, hA6, f0⟩ := Kd.at_int hC6 (q : Int) (by omega) (by omega)
      subst hA6
      simp only [Int.toNat_natCast] at f0
      clear hC6 hv6 hc6
      have HT := Lib.hid (HNX.out (rd (nexts b) q) (by unfold rd; exact getD_mem (by omega)))
      have HT1 := Lib.hid (take_snoc_int (nexts b) q hlt)
      have HRD := Lib.hid (show (nexts b).getD q 0 = rd (nexts b) q from rfl)
      generalize rd (nexts b) q = t at *
      obtain ⟨tn, rfl⟩ := Int.eq_ofNat_of_zero_le HT.out.1
      have htl : tn < ins.length := by have := HT.out.2; omega
      have hu94 := Try.underlying94
      have hir := HI.out.below HF.out.b hg
      have hrg := hir.range tn htl
      have hok := hir.okAt tn htl
      rw [Nat.mul_comm] at hrg
      clear hir
      generalize hwe : ins.getD tn [] = tw at hrg hok
      have HWE := Lib.hid hwe
      clear hwe
      go_upto_region 5 with fail
      refine wp_region_lit ?_
      iterate 3 (refine wpList_plain rfl (fun K hK => ?_); go_simp; refine hK _ _ ?_; clear hK K)
      refine wpList_load_mid rfl 98 (.tmp 24) rfl g (tn * 16) rfl (tw.map wv) (.array 16 96) hrg Try.underlying98 rfl (by rw [size98, List.length_map, hok.1]) ?_
      clear hrg
      have HOK := Lib.hid hok
      go_wp2_with (go_at_call 91; go_loud (refine (with_calls (w.heap.size + 2) _ tw wr HF.out.c2 HF.out.ok HOK.out).mono ?_; rintro e w2 ⟨rfl, hs2, hg2⟩; have HN2 := Lib.hid (R_grown_SB HN.out HF.out.c2 hg2); have HF2 := Lib.hid (HF.out.step hg2 hs2 (okW_with HF.out.ok HOK.out)); clear hs2 hg2))
      go_roundw
      case rel =>
        refine ⟨q + 1, by omega, by go_num, ?_, HN2.out⟩
        rw [HT1.out, List.foldl_append, HRD.out]
        simp only [List.foldl_cons, List.foldl_nil, Int.toNat_natCast, HWE.out]
        exact HF2.out
      case measure => simp [intOf]; omega
    · have hqe : q = (nexts b).length := by omega
      subst hqe
      rw [List.take_length] at HF
      clear HN
      have b1 : wr.cell? ⟨w.heap.size, 1, none⟩ = some (.int .u8 b.f1) := (blk_cell HF.out.c0 1).trans rfl
      have b2 : wr.cell? ⟨w.heap.size, 2, none⟩ = some (.int .i64 b.f2) := (blk_cell HF.out.c0 2).trans rfl
      go_upto_if 30 with fail
      go_cut [33] (fun _ wc => LFr w #[.slice A b.f0.length c, .int .u8 b.f1, .int .i64 b.f2, .int .i64 b.f3, .int .i64 b.f4] (endW b ins) wc)
      case first =>
        by_cases h2 : b.f1 = 2
        · have hb2 := HB2.out h2
          have hbn : ((b.f2.toNat : Nat) : Int) = b.f2 := by omega
          have hput := put_calls (w.heap.size + 2) b.f2.toNat _ wr HF.out.c2 HF.out.ok (by omega)
          rw [hbn] at hput
          have HE := Lib.hid (show endW b ins = putW ((nexts b).foldl (fun s t => withW s (ins.getD t.toNat [])) zeroW) b.f2.toNat from by unfold endW; rw [if_pos h2])
          have e2 : (b.f1 == 2) = true := by simpa using h2
          clear h2
          go_wp2_with (go_at_call 63; go_loud (refine hput.mono ?_; rintro e w2 ⟨rfl, hs2, hg2⟩; have HF2 := Lib.hid (HF.out.step hg2 hs2 (okW_putW HF.out.ok _)); clear hs2 hg2 hput))
          go_meet
          case rel => rw [HE.out]; exact HF2.out
        · have HE := Lib.hid (show endW b ins = ((nexts b).foldl (fun s t => withW s (ins.getD t.toNat [])) zeroW) from by unfold endW; rw [if_neg h2])
          have e2 : (b.f1 == 2) = false := by simpa using h2
          clear h2
          go_wp2
          go_meet
          case rel => rw [HE.out]; exact HF.out
      case rest =>
        clear HF b1 b2
        have HF := Lib.hid hcut
        clear hcut
        have b0 : wc.cell? ⟨w.heap.size, 0, none⟩ = some (.slice A b.f0.length c) := (blk_cell HF.out.c0 0).trans rfl
        have hlm := HC.out.2.1
        go_wp2_with fail
        clear b0
        go_loopw [10] (fun j wr => ∃ m : Nat, k ≤ m ∧ m ≤ b.f0.length ∧ j = .int .i64 ((m : Int) - 1) ∧ LFr w #[.slice A b.f0.length c, .int .u8 b.f1, .int .i64 b.f2, .int .i64 b.f3, .int .i64 b.f4] ((b.f0.drop m).foldr stepW (endW b ins)) wr) (fun j _ => (intOf j + 1).toNat)
        case atStart => exact ⟨b.f0.length, hk, Nat.le_refl _, by go_num, by rw [List.drop_length]; exact HF.out⟩
        case round =>
          clear HF
          obtain ⟨m, hkm, hml, rfl, hF⟩ := hrel
          have HF := Lib.hid hF
          clear hF
          by_cases hlt : k < m
          · obtain ⟨q, rfl⟩ : ∃ q, m = q + 1 := ⟨m - 1, by omega⟩
            obtain ⟨ad3, hA3, d0, d1, d2, d3, d4, d5⟩ := at_T46 (Kd.C_below HC.out HF.out.b) (q : Int) (by omega) (by omega)
            subst hA3
            simp only [Int.toNat_natCast] at d0 d1 d2 d3 d4 d5
            have hqm : ((q + 1 : Nat) : Int) - 1 = (q : Int) := by omega
            rw [hqm]
            have HD := Lib.hid (show b.f0.drop q = rd_T46 b.f0 q :: b.f0.drop (q + 1) from by
              rw [List.drop_eq_getElem_cons (by omega)]
              congr 1
              simp [rd_T46, show q < b.f0.length from by omega])
            have HX := Lib.hid (HR.out (rd_T46 b.f0 q) (getD_mem (by omega)))
            have b0 : wr.cell? ⟨w.heap.size, 0, none⟩ = some (.slice (some ad3) b.f0.length c) := (blk_cell HF.out.c0 0).trans rfl
            have hu46 := Try.underlying46
            generalize hxe : rd_T46 b.f0 q = x at *
            have HXE := Lib.hid hxe
            clear hxe
            have HST := Lib.hid (show (b.f0.drop q).foldr stepW (endW b ins) = (asksS x).foldl (fun s r => putW s r.toNat) (if (chgS x).2 then dropW ((b.f0.drop (q + 1)).foldr stepW (endW b ins)) (chgS x).1.toNat else ((b.f0.drop (q + 1)).foldr stepW (endW b ins))) from by rw [HD.out]; rfl)
            have HCH := Lib.hid (chg_calls x)
            have HX1 := Lib.hid HX.out.1
            have HX2 := Lib.hid HX.out.2
            clear HX HD
            generalize (b.f0.drop (q + 1)).foldr stepW (endW b ins) = s0 at *
            generalize chgS x = cz at *
            obtain ⟨r, z⟩ := cz
            go_upto_if 52 with (go_at_call 62; go_loud (refine (HCH.out wr).mono ?_; rintro e w2 ⟨rfl, hb2⟩; have HF2 := Lib.hid (HF.out.below hb2); clear hb2 b0 d0 d1 d2 d3 d4 d5))
            clear HCH
            go_cut [53, 54] (fun _ _ wc => LFr w #[.slice (some ad3) b.f0.length c, .int .u8 b.f1, .int .i64 b.f2, .int .i64 b.f3, .int .i64 b.f4] (if z then dropW s0 r.toNat else s0) wc)
            case first =>
              cases z
              · go_wp2
                go_meet
                case rel => exact HF2.out
              · have hrr := HX1.out rfl
                have hbn : ((r.toNat : Nat) : Int) = r := by omega
                have hdr := drop_calls (w.heap.size + 2) r.toNat _ w2 HF2.out.c2 HF2.out.ok (by omega)
                rw [hbn] at hdr
                go_wp2_with (go_at_call 92; go_loud (refine hdr.mono ?_; rintro e w3 ⟨rfl, hs3, hg3⟩; have HF3 := Lib.hid (HF2.out.step hg3 hs3 (okW_dropW HF2.out.ok _)); clear hs3 hg3 hdr))
                go_meet
                case rel => exact HF3.out
            case rest =>
              clear HF HF2 HX1
              have HF := Lib.hid hcut
              clear hcut
              generalize (if z = true then dropW s0 r.toNat else s0) = s1 at *
              obtain ⟨ad4, hA4, d0, d1, d2, d3, d4, d5⟩ := at_T46 (Kd.C_below HC.out HF.out.b) (q : Int) (by omega) (by omega)
              obtain rfl : ad3 = ad4 := Option.some.inj hA4
              rw [HXE.out] at d0 d1 d2 d3 d4 d5
              simp only [Int.toNat_natCast] at d0 d1 d2 d3 d4 d5
              have b0 : wc.cell? ⟨w.heap.size, 0, none⟩ = some (.slice (some ad3) b.f0.length c) := (blk_cell HF.out.c0 0).trans rfl
              go_wp2_with (go_at_call 93; go_loud (refine (asks_calls x wc).mono ?_; rintro e w3 ⟨v, rfl, hR3, hb3⟩; have HF3 := Lib.hid (HF.out.below hb3); have HN := Lib.hid (Kd.R_lower hR3 (show w.heap.size ≤ _ from HF.out.b.size)); clear hb3 hR3 b0 d0 d1 d2 d3 d4 d5; obtain ⟨A7, c7, hv7, hc7, hC7⟩ := Kd.R_reads HN.out; clear hC7; subst hv7))
              have hal : (asksS x).length ≤ 3 := by
                unfold asksS
                (repeat' split) <;> simp
              clear HF
              generalize asksS x = l at *
              go_loopw [62] (fun j wr => ∃ p : Nat, p ≤ l.length ∧ j = .int .i64 p ∧ LFr w #[.slice (some ad3) b.f0.length c, .int .u8 b.f1, .int .i64 b.f2, .int .i64 b.f3, .int .i64 b.f4] ((l.take p).foldl (fun s r => putW s r.toNat) s1) wr ∧ Kd.R (Kd.int .i64) 3 wr w.heap.size (fun _ => True) (.slice A7 l.length c7) l) (fun j _ => l.length - (intOf j).toNat)
              case atStart => exact ⟨0, Nat.zero_le _, rfl, HF3.out, HN.out⟩
              case round =>
                clear HF3 HN
                obtain ⟨p, hp, rfl, hF, hN⟩ := hrel
                have HF := Lib.hid hF
                have HN := Lib.hid hN
                clear hF hN
                by_cases hlp : p < l.length
                · obtain ⟨A6, c6, hv6, hc6, hC6⟩ := Kd.R_reads HN.out
                  have hA6 : A6 = A7 := by injection hv6 with e; exact e.symm
                  subst hA6
                  obtain ⟨ad6, hA6, f0⟩ := Kd.at_int hC6 (p : Int) (by omega) (by omega)
                  subst hA6
                  simp only [Int.toNat_natCast] at f0
                  clear hC6 hv6 hc6
                  have ht := HX2.out (rd l p) (by unfold rd; exact getD_mem (by omega))
                  have HT1 := Lib.hid (take_snoc_int l p hlp)
                  have HRD := Lib.hid (show l.getD p 0 = rd l p from rfl)
                  generalize rd l p = t at *
                  have hbn : ((t.toNat : Nat) : Int) = t := by omega
                  have hput := put_calls (w.heap.size + 2) t.toNat _ wr HF.out.c2 HF.out.ok (by omega)
                  rw [hbn] at hput
                  go_wp2_with (go_at_call 63; go_loud (refine hput.mono ?_; rintro e w4 ⟨rfl, hs4, hg4⟩; have HN4 := Lib.hid (R_grown_SB HN.out HF.out.c2 hg4); have HF4 := Lib.hid (HF.out.step hg4 hs4 (okW_putW HF.out.ok _)); clear hs4 hg4 hput))
                  go_roundw
                  case rel =>
                    refine ⟨p + 1, by omega, by go_num, ?_, HN4.out⟩
                    rw [HT1.out, List.foldl_append, HRD.out]
                    exact HF4.out
                  case measure => simp [intOf]; omega
                · have hqe : p = l.length := by omega
                  subst hqe
                  rw [List.take_length] at HF
                  go_wp2
                  go_roundw
                  case rel =>
                    refine ⟨q, by omega, by omega, by go_num, ?_⟩
                    rw [HST.out]
                    exact HF.out
                  case measure => simp [intOf]
          · have : m = k := by omega
            subst this
            go_upto_region 20 with fail
            refine wp_region_lit ?_
            generalize hs0 : (b.f0.drop m).foldr stepW (endW b ins) = s0 at *
            have HS0 := Lib.hid (show aheadW b m ins = s0 from hs0)
            clear hs0
            have hl0 := HF.out.ok
            refine wpList_load_row rfl 98 (.tmp 7) rfl (w.heap.size + 2) rfl 98 (s0.map wv).toArray (0, 0) (.array 16 96) HF.out.c2 Try.underlying98 rfl (by rw [size98]; simp [hl0.1]) ?_
            refine wpList_store_mid rfl 98 (.tmp 6) (.tmp 69) rfl (w.heap.size + 1) 0 (s0.map wv).toArray rfl rfl (by have := HF.out.c1.there okW_zero; simpa [hl0.1] using this) (by rw [size98]; simp [hl0.1]) (by simp [wv, Value.oneCell']) ?_
            have H1 := Lib.hid (HF.out.c1.puts okW_zero hl0)
            have HB := Lib.hid (HF.out.b.grown (grown_puts (w.heap.size + 1) (s0.map wv) 0 wr) HF.out.b.size (fun q hq => by cases hq; omega))
            go_wp2
            refine bodyPost_ret (results_cell_row rfl _ _ (w.heap.size + 1) 98 (s0.map wv).toArray (0, 0) (.array 16 96) rfl H1.out Try.underlying98 rfl (by rw [size98]; simp [hl0.1])) rfl ?_
            rw [HS0.out]
            exact ⟨rfl, hl0, HB.out⟩
end Go.Proofs.Ytjmeignhhheckaa.H
namespace Go.Proofs.Ytjmeignhhheckaa.H
open Go.RowKit Go.Maps Go.Proofs.YtjmeignhhheckaaW.PrintWords Go.Proofs.YtjmeignhhheckaaW.PrintLast Go.Proofs.Ytjmeignhhheckaa.Q
set_option maxRecDepth 100000
theorem hasW_bit (ws : List Nat) (r : Nat) : hasW ws r = (ws.getD (r / 64) 0).testBit (r % 64) := by
  unfold hasW
  rw [Nat.testBit_eq_decide_div_mod_eq]
  generalize ws.getD (r / 64) 0 / 2 ^ (r % 64) % 2 = x
  by_cases h : x = 1
  · simp [h]
  · simp [h]
theorem getD_set_self {l : List Nat} {i x : Nat} (h : i < l.length) : (l.set i x).getD i 0 = x := by
  simp [h]
theorem getD_set_other {l : List Nat} {i j x : Nat} (h : i ≠ j) : (l.set i x).getD j 0 = l.getD j 0 := by
  simp only [List.getD_eq_getElem?_getD]
  rw [List.getElem?_set_ne h]
theorem hasW_put (ws : List Nat) (hw : okW ws) (r q : Nat) (hr : r < 1024) : hasW (putW ws r) q = (decide (q = r) || hasW ws q) := by
  rw [hasW_bit, hasW_bit, putW]
  by_cases hd : r / 64 = q / 64
  · rw [← hd, getD_set_self (by rw [hw.1]; omega), Nat.testBit_or, Nat.testBit_two_pow]
    by_cases hm : r % 64 = q % 64
    · have : q = r := by omega
      simp [this]
    · have : q ≠ r := by intro e; subst e; exact hm rfl
      simp [this, hm]
  · rw [getD_set_other hd]
    have : q ≠ r := by intro e; subst e; exact hd rfl
    simp [this]
theorem hasW_drop (ws : List Nat) (hw : okW ws) (r q : Nat) (hr : r < 1024) : hasW (dropW ws r) q = (decide (q ≠ r) && hasW ws q) := by
  rw [hasW_bit, hasW_bit, dropW]
  by_cases hd : r / 64 = q / 64
  · rw [← hd, getD_set_self (by rw [hw.1]; omega), Nat.testBit_and]
    have h2 : (18446744073709551615 - 2 ^ (r % 64)).testBit (q % 64) = decide (q % 64 ≠ r % 64) := by
      have h3 := Nat.testBit_two_pow_sub_succ (n := 64) (x := 2 ^ (r % 64)) (Nat.pow_lt_pow_right (by decide) (by omega)) (q % 64)
      rw [show (2 : Nat) ^ 64 - (2 ^ (r % 64) + 1) = 18446744073709551615 - 2 ^ (r % 64) from by omega] at h3
      rw [h3, Nat.testBit_two_pow]
      by_cases e : r % 64 = q % 64
      · simp [e]
      · have e' : ¬ q % 64 = r % 64 := fun h => e h.symm
        simp [e, e']
        omega
    rw [h2]
    by_cases hm : q % 64 = r % 64
    · have : q = r := by omega
      simp [this]
    · have : q ≠ r := by intro e; subst e; exact hm rfl
      simp [this, hm]
  · rw [getD_set_other hd]
    have : q ≠ r := by intro e; subst e; exact hd rfl
    simp [this]
theorem mixW_at (f : Nat → Nat → Nat) (a b : List Nat) (ha : a.length = 16) (n i : Nat) (h : i < n) (hi : i < 16) : (mixW f a b n).getD i 0 = f (a.getD i 0) (b.getD i 0) := by
  induction n with
  | zero => omega
  | succ n ih =>
    rw [mixW]
    by_cases e : n = i
    · subst e
      rw [getD_set_self (by rw [mixW_len, ha]; exact hi)]
    · rw [getD_set_other e]
      exact ih (by omega)
theorem hasW_far (ws : List Nat) (hw : okW ws) (q : Nat) (h : 1024 ≤ q) : hasW ws q = false := by
  rw [hasW_bit, List.getD_eq_getElem?_getD, List.getElem?_eq_none (by rw [hw.1]; omega)]
  simp
theorem hasW_with (a b : List Nat) (ha : okW a) (hb : okW b) (q : Nat) : hasW (withW a b) q = (hasW a q || hasW b q) := by
  by_cases h : q < 1024
  · rw [hasW_bit, hasW_bit, hasW_bit, withW, mixW_at _ _ _ ha.1 _ _ (by omega) (by omega), Nat.testBit_or]
  · rw [hasW_far _ (okW_with ha hb) _ (by omega), hasW_far _ ha _ (by omega), hasW_far _ hb _ (by omega)]; rfl
theorem hasW_zero (q : Nat) : hasW zeroW q = false := by
  rw [hasW_bit]
  have : zeroW.getD (q / 64) 0 = 0 := by
    rw [zeroW, List.getD_eq_getElem?_getD, List.getElem?_replicate]
    split <;> rfl
  rw [this, Nat.zero_testBit]
theorem okW_ext {a b : List Nat} (ha : okW a) (hb : okW b) (h : ∀ q, q < 1024 → hasW a q = hasW b q) : a = b := by
  apply List.ext_getElem (by rw [ha.1, hb.1])
  intro i h1 h2
  apply Nat.eq_of_testBit_eq
  intro j
  by_cases hj : j < 64
  · have hi : i < 16 := by rw [ha.1] at h1; exact h1
    have := h (64 * i + j) (by omega)
    rw [hasW_bit, hasW_bit, show (64 * i + j) / 64 = i from by omega, show (64 * i + j) % 64 = j from by omega] at this
    simpa [h1, h2] using this
  · rw [Nat.testBit_lt_two_pow, Nat.testBit_lt_two_pow]
    · exact Nat.lt_of_lt_of_le (hb.2 _ (List.getElem_mem h2)) (Nat.pow_le_pow_right (n := 2) (by decide) (by omega : 64 ≤ j))
    · exact Nat.lt_of_lt_of_le (ha.2 _ (List.getElem_mem h1)) (Nat.pow_le_pow_right (n := 2) (by decide) (by omega : 64 ≤ j))
def subW (a b : List Nat) : Prop := ∀ q, hasW a q = true → hasW b q = true
def cntW (a : List Nat) : Nat := (lstTo a 1024).length
theorem cntW_le (a : List Nat) : cntW a ≤ 1024 := lstTo_le a 1024
theorem cntW_sub {a b : List Nat} (h : subW a b) (k : Nat) : (lstTo a k).length ≤ (lstTo b k).length := by
  induction k with
  | zero => exact Nat.le_refl _
  | succ k ih =>
    rw [lstTo_succ, lstTo_succ, List.length_append, List.length_append]
    by_cases e : hasW a k = true
    · rw [e, h k e]; simp; exact ih
    · rw [if_neg e]; simp; omega
theorem cntW_lt {a b : List Nat} (ha : okW a) (hb : okW b) (h : subW a b) (hne : a ≠ b) : cntW a < cntW b := by
  have : ∃ q, q < 1024 ∧ hasW a q = false ∧ hasW b q = true := by
    refine Classical.byContradiction fun hn => hne (okW_ext ha hb fun q hq => ?_)
    cases e : hasW a q with
    | true => exact (h q e).symm
    | false =>
      cases e2 : hasW b q with
      | false => rfl
      | true => exact absurd ⟨q, hq, e, e2⟩ hn
  obtain ⟨q, hq, h1, h2⟩ := this
  unfold cntW
  have key : ∀ m, q < m → (lstTo a m).length < (lstTo b m).length := by
    intro m hm
    induction m with
    | zero => omega
    | succ m ih =>
      rw [lstTo_succ, lstTo_succ, List.length_append, List.length_append]
      by_cases e : q = m
      · subst e
        rw [h1, h2]
        have := cntW_sub h q
        simp
        omega
      · have := ih (by omega)
        by_cases e2 : hasW a m = true
        · rw [e2, h m e2]; simp; exact this
        · rw [if_neg e2]; simp; omega
  exact key 1024 hq
theorem subW_trans {a b c : List Nat} (h : subW a b) (k : subW b c) : subW a c := fun q hq => k q (h q hq)
theorem mem_lst (ws : List Nat) (hw : okW ws) (q : Nat) : q ∈ lstTo ws 1024 ↔ hasW ws q = true := by
  unfold lstTo
  rw [List.mem_filter, List.mem_range]
  refine ⟨fun h => h.2, fun h => ⟨?_, h⟩⟩
  refine Nat.lt_of_not_le fun hq => ?_
  rw [hasW_far ws hw q hq] at h
  cases h
end Go.Proofs.Ytjmeignhhheckaa.H
namespace Go.Proofs.Ytjmeignhhheckaa.H
open Go.RowKit Go.Maps Go.Proofs.YtjmeignhhheckaaW.PrintWords Go.Proofs.YtjmeignhhheckaaW.PrintLast Go.Proofs.Ytjmeignhhheckaa.Q
set_option maxRecDepth 100000
theorem puts_has (l : List Int) (hl : ∀ r ∈ l, 0 ≤ r ∧ r < 1024) : ∀ (s : List Nat), okW s → okW (l.foldl (fun s r => putW s r.toNat) s) ∧ ∀ q : Nat, hasW (l.foldl (fun s r => putW s r.toNat) s) q = (decide ((q : Int) ∈ l) || hasW s q) := by
  induction l with
  | nil => intro s hs; exact ⟨hs, fun q => by simp⟩
  | cons r l ih =>
    intro s hs
    have hr := hl r (by simp)
    have := ih (fun x hx => hl x (by simp [hx])) (putW s r.toNat) (okW_putW hs _)
    rw [List.foldl_cons]
    refine ⟨this.1, fun q => ?_⟩
    rw [this.2, hasW_put s hs _ _ (by omega)]
    have e : (q = r.toNat) ↔ ((q : Int) = r) := by omega
    rw [show decide (q = r.toNat) = decide ((q : Int) = r) from decide_eq_decide.2 e]
    by_cases h1 : (q : Int) = r
    · simp [h1]
    · simp [h1]
theorem withs_has (l : List Int) (f : Int → List Nat) (hf : ∀ t ∈ l, okW (f t)) : ∀ (s : List Nat), okW s → okW (l.foldl (fun s t => withW s (f t)) s) ∧ ∀ q : Nat, hasW (l.foldl (fun s t => withW s (f t)) s) q = (l.any (fun t => hasW (f t) q) || hasW s q) := by
  induction l with
  | nil => intro s hs; exact ⟨hs, fun q => by simp⟩
  | cons r l ih =>
    intro s hs
    have hr := hf r (by simp)
    have := ih (fun x hx => hf x (by simp [hx])) (withW s (f r)) (okW_with hs hr)
    rw [List.foldl_cons]
    refine ⟨this.1, fun q => ?_⟩
    rw [this.2, hasW_with s _ hs hr, List.any_cons]
    cases hasW s q <;> cases hasW (f r) q <;> simp
theorem step_has (x : S46) (hx : regOk x) (s : List Nat) (hs : okW s) : okW (stepW x s) ∧ ∀ q : Nat, hasW (stepW x s) q = (decide ((q : Int) ∈ asksS x) || (hasW s q && !((chgS x).2 && decide ((q : Int) = (chgS x).1)))) := by
  have h1 : okW (if (chgS x).2 then dropW s (chgS x).1.toNat else s) := by
    split
    · exact okW_dropW hs _
    · exact hs
  have := puts_has (asksS x) hx.2 _ h1
  refine ⟨this.1, fun q => ?_⟩
  unfold stepW
  rw [this.2]
  congr 1
  by_cases hc : (chgS x).2 = true
  · have hr := hx.1 hc
    rw [if_pos hc, hasW_drop s hs _ _ (by omega), hc]
    have e : (q = (chgS x).1.toNat) ↔ ((q : Int) = (chgS x).1) := by omega
    rw [show decide (q ≠ (chgS x).1.toNat) = decide ((q : Int) ≠ (chgS x).1) from decide_eq_decide.2 (not_congr e)]
    by_cases h1 : (q : Int) = (chgS x).1
    · simp [h1]
    · simp [h1]
  · rw [if_neg hc]
    simp [hc]
theorem stepW_mono {x : S46} (hx : regOk x) {a b : List Nat} (ha : okW a) (hb : okW b) (h : subW a b) : subW (stepW x a) (stepW x b) := by
  intro q hq
  rw [(step_has x hx a ha).2] at hq
  rw [(step_has x hx b hb).2]
  have := h q
  cases h1 : decide ((q : Int) ∈ asksS x) with
  | true => rfl
  | false =>
    rw [h1, Bool.false_or, Bool.and_eq_true] at hq
    rw [this hq.1, hq.2]; rfl
theorem foldr_ok (l : List S46) (hl : ∀ x ∈ l, regOk x) (s : List Nat) (hs : okW s) : okW (l.foldr stepW s) := by
  induction l with
  | nil => exact hs
  | cons x l ih => exact (step_has x (hl x (by simp)) _ (ih (fun y hy => hl y (by simp [hy])))).1
theorem foldr_mono (l : List S46) (hl : ∀ x ∈ l, regOk x) {a b : List Nat} (ha : okW a) (hb : okW b) (h : subW a b) : subW (l.foldr stepW a) (l.foldr stepW b) := by
  induction l with
  | nil => exact h
  | cons x l ih =>
    have hl' : ∀ y ∈ l, regOk y := fun y hy => hl y (by simp [hy])
    exact stepW_mono (hl x (by simp)) (foldr_ok l hl' a ha) (foldr_ok l hl' b hb) (ih hl')
/-- may the walk go on such a block? -/
structure blkOk (n : Nat) (b : S36) : Prop where
  nx : ∀ t ∈ nexts b, 0 ≤ t ∧ t < n
  br : b.f1 = 2 → 0 ≤ b.f2 ∧ b.f2 < 1024
  rg : ∀ x ∈ b.f0, regOk x
structure insOk (n : Nat) (ins : List (List Nat)) : Prop where
  len : ins.length = n
  ok : ∀ x ∈ ins, okW x
theorem insOk.at {n : Nat} {ins : List (List Nat)} (h : insOk n ins) (i : Nat) (hi : i < n) : okW (ins.getD i []) := by
  rw [List.getD_eq_getElem?_getD, List.getElem?_eq_getElem (by rw [h.len]; exact hi)]
  exact h.ok _ (List.getElem_mem _)
theorem insOk.set {n : Nat} {ins : List (List Nat)} (h : insOk n ins) (i : Nat) (x : List Nat) (hx : okW x) : insOk n (ins.set i x) :=
  ⟨by rw [List.length_set]; exact h.len, fun y hy => (List.mem_or_eq_of_mem_set hy).elim (h.ok y) (fun e => e ▸ hx)⟩
theorem end_has {n : Nat} {b : S36} (hb : blkOk n b) {ins : List (List Nat)} (hi : insOk n ins) : okW (endW b ins) ∧ ∀ q : Nat, hasW (endW b ins) q = (((nexts b).any fun t => hasW (ins.getD t.toNat []) q) || (decide (b.f1 = 2) && decide ((q : Int) = b.f2))) := by
  have hw := withs_has (nexts b) (fun t => ins.getD t.toNat []) (fun t ht => hi.at t.toNat (by have := hb.nx t ht; omega)) zeroW okW_zero
  unfold endW
  by_cases h2 : b.f1 = 2
  · have hr := hb.br h2
    simp only [h2, if_true]
    refine ⟨okW_putW hw.1 _, fun q => ?_⟩
    rw [hasW_put _ hw.1 _ _ (by omega), hw.2, hasW_zero]
    have e : (q = b.f2.toNat) ↔ ((q : Int) = b.f2) := by omega
    rw [show decide (q = b.f2.toNat) = decide ((q : Int) = b.f2) from decide_eq_decide.2 e]
    by_cases h1 : (q : Int) = b.f2
    · simp [h1]
    · simp [h1]
  · simp only [h2, if_false]
    exact ⟨hw.1, fun q => by rw [hw.2, hasW_zero]; simp⟩
theorem ahead_ok {n : Nat} {b : S36} (hb : blkOk n b) {ins : List (List Nat)} (hi : insOk n ins) (k : Nat) : okW (aheadW b k ins) :=
  foldr_ok _ (fun x hx => hb.rg x (List.mem_of_mem_drop hx)) _ (end_has hb hi).1
theorem ahead_mono {n : Nat} {b : S36} (hb : blkOk n b) {ins jns : List (List Nat)} (hi : insOk n ins) (hj : insOk n jns) (h : ∀ i, i < n → subW (ins.getD i []) (jns.getD i [])) (k : Nat) : subW (aheadW b k ins) (aheadW b k jns) := by
  refine foldr_mono _ (fun x hx => hb.rg x (List.mem_of_mem_drop hx)) (end_has hb hi).1 (end_has hb hj).1 ?_
  intro q hq
  rw [(end_has hb hi).2, Bool.or_eq_true] at hq
  rw [(end_has hb hj).2, Bool.or_eq_true]
  rcases hq with hq | hq
  · left
    rw [List.any_eq_true] at hq ⊢
    obtain ⟨t, ht, hq⟩ := hq
    have := hb.nx t ht
    exact ⟨t, ht, h t.toNat (by omega) q hq⟩
  · exact .inr hq
/-- what lies ahead asks the beginnings of the next ones alone -/
theorem ahead_same (b : S36) (ins jns : List (List Nat)) (h : ∀ t ∈ nexts b, ins.getD t.toNat [] = jns.getD t.toNat []) (k : Nat) : aheadW b k ins = aheadW b k jns := by
  have hf : ∀ (l : List Int) (s : List Nat), (∀ t ∈ l, ins.getD t.toNat [] = jns.getD t.toNat []) → l.foldl (fun s t => withW s (ins.getD t.toNat [])) s = l.foldl (fun s t => withW s (jns.getD t.toNat [])) s := by
    intro l
    induction l with
    | nil => intro s _; rfl
    | cons t l ih =>
      intro s hl
      rw [List.foldl_cons, List.foldl_cons, hl t (by simp)]
      exact ih _ (fun u hu => hl u (by simp [hu]))
  unfold aheadW endW
  rw [hf _ _ h]
end Go.Proofs.Ytjmeignhhheckaa.H
namespace Go.Proofs.Ytjmeignhhheckaa.H
open Go.RowKit Go.Maps Go.Proofs.YtjmeignhhheckaaW.PrintWords Go.Proofs.YtjmeignhhheckaaW.PrintLast Go.Proofs.Ytjmeignhhheckaa.Q
set_option maxRecDepth 100000
def blkAt (bs : List S36) (b : Int) : S36 := rd_T36 bs b
def setsGo (bs : List S36) (frm : List (List Int)) : Nat → List (List Nat) → List Int → Option (List (List Nat))
  | 0, _, _ => none
  | _ + 1, ins, [] => some ins
  | k + 1, ins, b :: st =>
    if aheadW (blkAt bs b) 0 ins = ins.getD b.toNat [] then setsGo bs frm k ins st
    else setsGo bs frm k (ins.set b.toNat (aheadW (blkAt bs b) 0 ins)) ((frm.getD b.toNat []).reverse ++ st)
def frmGo : List S36 → Nat → List (List Int) → List (List Int)
  | [], _, f => f
  | x :: r, n, f => frmGo r (n + 1) ((nexts x).foldl (fun f t => f.set t.toNat (f.getD t.toNat [] ++ [(n : Int)])) f)
def frmOf (bs : List S36) : List (List Int) := frmGo bs 0 (List.replicate bs.length [])
def bitsOf (ins : List (List Nat)) : Nat := (ins.map cntW).sum
theorem bits_le (ins : List (List Nat)) : bitsOf ins ≤ 1024 * ins.length := by
  unfold bitsOf
  induction ins with
  | nil => simp
  | cons x l ih => have := cntW_le x; simp only [List.map_cons, List.sum_cons, List.length_cons]; omega
theorem bits_set (ins : List (List Nat)) (i : Nat) (x : List Nat) (hi : i < ins.length) : bitsOf (ins.set i x) + cntW (ins.getD i []) = bitsOf ins + cntW x := by
  unfold bitsOf
  induction ins generalizing i with
  | nil => simp at hi
  | cons y l ih =>
    cases i with
    | zero => simp; omega
    | succ i => have := ih i (by simpa using hi); simp at this ⊢; omega
theorem getD_set_list {l : List (List Nat)} {i j : Nat} {x : List Nat} (h : i < l.length) : (l.set i x).getD j [] = if i = j then x else l.getD j [] := by
  simp only [List.getD_eq_getElem?_getD]
  by_cases e : i = j
  · subst e; simp [h]
  · rw [List.getElem?_set_ne e, if_neg e]
/-- what holds between two rounds -/
structure SetsInv (bs : List S36) (frm : List (List Int)) (ins : List (List Nat)) (st : List Int) : Prop where
  ok : insOk bs.length ins
  rng : ∀ b ∈ st, 0 ≤ b ∧ b < bs.length
  up : ∀ b : Nat, b < bs.length → subW (ins.getD b []) (aheadW (blkAt bs b) 0 ins)
  fix : ∀ b : Nat, b < bs.length → (b : Int) ∉ st → aheadW (blkAt bs b) 0 ins = ins.getD b []
/-- from which blocks each is reached -/
structure FrmOk (bs : List S36) (frm : List (List Int)) : Prop where
  rng : ∀ t : Nat, t < bs.length → ∀ b ∈ frm.getD t [], 0 ≤ b ∧ b < bs.length
  all : ∀ (b t : Nat), b < bs.length → (t : Int) ∈ nexts (blkAt bs b) → (b : Int) ∈ frm.getD t []
  len : ∀ t : Nat, t < bs.length → (frm.getD t []).length ≤ bs.length
theorem blkAt_mem (bs : List S36) (b : Nat) (h : b < bs.length) : blkAt bs b ∈ bs := by
  unfold blkAt rd_T36
  simpa using getD_mem h
theorem SetsInv.same {bs : List S36} {frm : List (List Int)} {ins : List (List Nat)} {b : Int} {st : List Int} (h : SetsInv bs frm ins (b :: st)) (he : aheadW (blkAt bs b) 0 ins = ins.getD b.toNat []) : SetsInv bs frm ins st :=
  ⟨h.ok, fun c hc => h.rng c (by simp [hc]), h.up, fun c hc hn => by
    by_cases e : (c : Int) = b
    · subst e; simpa using he
    · exact h.fix c hc (by simp [e, hn])⟩
theorem SetsInv.more {bs : List S36} {frm : List (List Int)} {ins : List (List Nat)} {b : Int} {st : List Int} (hb : ∀ x ∈ bs, blkOk bs.length x) (hf : FrmOk bs frm) (h : SetsInv bs frm ins (b :: st)) :
    SetsInv bs frm (ins.set b.toNat (aheadW (blkAt bs b) 0 ins)) ((frm.getD b.toNat []).reverse ++ st) ∧ ∀ i, i < bs.length → subW (ins.getD i []) ((ins.set b.toNat (aheadW (blkAt bs b) 0 ins)).getD i []) := by
  have hr := h.rng b (by simp)
  obtain ⟨n, rfl⟩ := Int.eq_ofNat_of_zero_le hr.1
  simp only [Int.toNat_natCast] at *
  have hn : n < bs.length := by omega
  have hk := hb _ (blkAt_mem bs n hn)
  have hok := ahead_ok hk h.ok 0
  have hil : n < ins.length := by rw [h.ok.len]; exact hn
  have hgrow : ∀ i, i < bs.length → subW (ins.getD i []) ((ins.set n (aheadW (blkAt bs n) 0 ins)).getD i []) := by
    intro i hi
    rw [getD_set_list hil]
    split
    · rename_i e; subst e; exact h.up n hn
    · exact fun q hq => hq
  have hnew := h.ok.set n _ hok
  refine ⟨⟨hnew, ?_, ?_, ?_⟩, hgrow⟩
  · intro c hc
    rcases List.mem_append.1 hc with hc | hc
    · exact hf.rng n hn c (List.mem_reverse.1 hc)
    · exact h.rng c (by simp [hc])
  · intro c hc
    refine subW_trans ?_ (ahead_mono (hb _ (blkAt_mem bs c hc)) h.ok hnew hgrow 0)
    rw [getD_set_list hil]
    split
    · rename_i e; subst e; exact fun q hq => hq
    · exact h.up c hc
  · intro c hc hnot
    simp only [List.mem_append, List.mem_reverse, not_or] at hnot
    have hnn : (n : Int) ∉ nexts (blkAt bs c) := fun hm => hnot.1 (hf.all c n hc hm)
    have hs : aheadW (blkAt bs c) 0 (ins.set n (aheadW (blkAt bs n) 0 ins)) = aheadW (blkAt bs c) 0 ins := by
      refine ahead_same _ _ _ (fun t ht => ?_) 0
      have ht2 := (hb _ (blkAt_mem bs c hc)).nx t ht
      rw [getD_set_list hil, if_neg]
      intro e
      refine hnn ?_
      have : (n : Int) = t := by omega
      rw [this]; exact ht
    rw [hs, getD_set_list hil]
    split
    · rename_i e; subst e; rfl
    · rename_i e
      exact h.fix c hc (by simp only [List.mem_cons, not_or]; exact ⟨fun e2 => e (by omega), hnot.2⟩)
/-- it ends, and what it tells is a fixed point -/
theorem sets_ends {bs : List S36} {frm : List (List Int)} (hb : ∀ x ∈ bs, blkOk bs.length x) (hf : FrmOk bs frm) :
    ∀ (k : Nat) (ins : List (List Nat)) (st : List Int), SetsInv bs frm ins st → (1024 * bs.length - bitsOf ins) * (bs.length + 1) + st.length + 1 ≤ k →
      ∃ r, setsGo bs frm k ins st = some r ∧ insOk bs.length r ∧ ∀ b : Nat, b < bs.length → aheadW (blkAt bs b) 0 r = r.getD b [] := by
  intro k
  induction k with
  | zero => intro ins st _ hk; omega
  | succ k ih =>
    intro ins st h hk
    cases st with
    | nil => exact ⟨ins, rfl, h.ok, fun b hb2 => h.fix b hb2 (by simp)⟩
    | cons b st =>
      rw [setsGo]
      by_cases he : aheadW (blkAt bs b) 0 ins = ins.getD b.toNat []
      · rw [if_pos he]
        exact ih ins st (h.same he) (by simp only [List.length_cons] at hk; omega)
      · rw [if_neg he]
        have hm := h.more hb hf
        refine ih _ _ hm.1 ?_
        have hr := h.rng b (by simp)
        have hbt : b.toNat < bs.length := by omega
        have hbb : blkAt bs (b.toNat : Int) = blkAt bs b := by congr 1; omega
        have hlt : cntW (ins.getD b.toNat []) < cntW (aheadW (blkAt bs b) 0 ins) := by
          refine cntW_lt (h.ok.at _ hbt) (ahead_ok (hb _ (by rw [← hbb]; exact blkAt_mem bs _ hbt)) h.ok 0) ?_ (fun e => he e.symm)
          rw [← hbb]; exact h.up _ hbt
        have hbs := bits_set ins b.toNat (aheadW (blkAt bs b) 0 ins) (by rw [h.ok.len]; exact hbt)
        have hle := bits_le (ins.set b.toNat (aheadW (blkAt bs b) 0 ins))
        rw [List.length_set, h.ok.len] at hle
        have hfl := hf.len b.toNat hbt
        simp only [List.length_append, List.length_reverse, List.length_cons] at hk ⊢
        have : (1024 * bs.length - bitsOf (ins.set b.toNat (aheadW (blkAt bs b) 0 ins)) + 1) * (bs.length + 1) ≤ (1024 * bs.length - bitsOf ins) * (bs.length + 1) := Nat.mul_le_mul_right _ (by omega)
        rw [Nat.add_mul] at this
        omega
end Go.Proofs.Ytjmeignhhheckaa.H
namespace Go.Proofs.Ytjmeignhhheckaa.H
open Go.RowKit Go.Maps Go.Proofs.YtjmeignhhheckaaW.PrintWords Go.Proofs.YtjmeignhhheckaaW.PrintLast Go.Proofs.Ytjmeignhhheckaa.Q
set_option maxRecDepth 100000
def frmStep (n : Nat) (f : List (List Int)) (t : Int) : List (List Int) := f.set t.toNat (f.getD t.toNat [] ++ [(n : Int)])
theorem frmStep_len (n : Nat) (f : List (List Int)) (t : Int) : (frmStep n f t).length = f.length := by simp [frmStep]
theorem frmFold_len (n : Nat) (l : List Int) : ∀ (f : List (List Int)), (l.foldl (frmStep n) f).length = f.length := by
  induction l with
  | nil => intro f; rfl
  | cons t l ih => intro f; rw [List.foldl_cons, ih, frmStep_len]
theorem getD_set_rows {l : List (List Int)} {i j : Nat} {x : List Int} (h : i < l.length) : (l.set i x).getD j [] = if i = j then x else l.getD j [] := by
  simp only [List.getD_eq_getElem?_getD]
  by_cases e : i = j
  · subst e; simp [h]
  · rw [List.getElem?_set_ne e, if_neg e]
def rowOf (l : List Int) (n t : Nat) : List Int := (l.filter fun u => decide (u = (t : Int))).map fun _ => (n : Int)
theorem frmFold_get (n t : Nat) (l : List Int) : ∀ (f : List (List Int)), (∀ u ∈ l, 0 ≤ u ∧ u < f.length) → (l.foldl (frmStep n) f).getD t [] = f.getD t [] ++ rowOf l n t := by
  induction l with
  | nil => intro f _; simp [rowOf]
  | cons u l ih =>
    intro f hl
    have hu := hl u (by simp)
    rw [List.foldl_cons, ih (frmStep n f u) (fun v hv => by rw [frmStep_len]; exact hl v (by simp [hv])), frmStep, getD_set_rows (by omega)]
    by_cases e : u.toNat = t
    · have e2 : u = (t : Int) := by omega
      subst e2
      simp [rowOf]
    · have e2 : ¬ u = (t : Int) := by omega
      rw [if_neg e]
      simp [rowOf, e2]
def fromRow : List S36 → Nat → Nat → List Int
  | [], _, _ => []
  | x :: r, n, t => rowOf (nexts x) n t ++ fromRow r (n + 1) t
theorem frmGo_len : ∀ (xs : List S36) (n : Nat) (f : List (List Int)), (frmGo xs n f).length = f.length
  | [], _, _ => rfl
  | x :: r, n, f => by rw [frmGo, frmGo_len r]; exact frmFold_len n (nexts x) f
theorem frmGo_get (t : Nat) : ∀ (xs : List S36) (n : Nat) (f : List (List Int)), (∀ x ∈ xs, ∀ u ∈ nexts x, 0 ≤ u ∧ u < f.length) → (frmGo xs n f).getD t [] = f.getD t [] ++ fromRow xs n t
  | [], _, f, _ => by simp [frmGo, fromRow]
  | x :: r, n, f, h => by
    have h1 := frmFold_get n t (nexts x) f (h x (by simp))
    have h2 := frmGo_get t r (n + 1) ((nexts x).foldl (frmStep n) f) (fun y hy u hu => by rw [frmFold_len]; exact h y (by simp [hy]) u hu)
    show (frmGo r (n + 1) ((nexts x).foldl (frmStep n) f)).getD t [] = _
    rw [h2, h1, fromRow, List.append_assoc]
theorem rowOf_len (b : S36) (n t : Nat) : (rowOf (nexts b) n t).length ≤ 1 := by
  unfold rowOf nexts
  rw [List.length_map]
  split
  · rename_i h
    by_cases e : b.f3 = (t : Int)
    · have : ¬ b.f4 = (t : Int) := fun e2 => h.2 (by rw [e, e2])
      simp [e, this]
    · by_cases e2 : b.f4 = (t : Int)
      · simp [e, e2]
      · simp [e, e2]
  · have one : ∀ u : Int, (List.filter (fun u => decide (u = (t : Int))) [u]).length ≤ 1 := fun u => List.length_filter_le _ _
    split
    · exact one _
    · split
      · exact one _
      · simp
theorem fromRow_len (t : Nat) : ∀ (xs : List S36) (n : Nat), (fromRow xs n t).length ≤ xs.length
  | [], _ => Nat.le_refl _
  | x :: r, n => by
    have := rowOf_len x n t
    have := fromRow_len t r (n + 1)
    rw [fromRow, List.length_append, List.length_cons]
    omega
theorem fromRow_rng (t : Nat) : ∀ (xs : List S36) (n : Nat), ∀ b ∈ fromRow xs n t, (n : Int) ≤ b ∧ b < n + xs.length
  | [], _, b, h => by simp [fromRow] at h
  | x :: r, n, b, h => by
    rw [fromRow, List.mem_append] at h
    rcases h with h | h
    · unfold rowOf at h
      rw [List.mem_map] at h
      obtain ⟨_, _, rfl⟩ := h
      simp only [List.length_cons]
      omega
    · have := fromRow_rng t r (n + 1) b h
      simp only [List.length_cons]
      omega
theorem fromRow_all (t : Nat) : ∀ (xs : List S36) (n i : Nat), i < xs.length → (t : Int) ∈ nexts (blkAt xs i) → ((n + i : Nat) : Int) ∈ fromRow xs n t
  | [], _, _, h, _ => by simp at h
  | x :: r, n, 0, _, h => by
    rw [fromRow, List.mem_append]
    left
    have : blkAt (x :: r) ((0 : Nat) : Int) = x := by simp [blkAt, rd_T36]
    rw [this] at h
    unfold rowOf
    rw [List.mem_map]
    exact ⟨(t : Int), List.mem_filter.2 ⟨h, by simp⟩, rfl⟩
  | x :: r, n, i + 1, hi, h => by
    rw [fromRow, List.mem_append]
    right
    have : blkAt (x :: r) ((i + 1 : Nat) : Int) = blkAt r (i : Nat) := by simp [blkAt, rd_T36]
    rw [this] at h
    have := fromRow_all t r (n + 1) i (by simpa using hi) h
    rwa [show n + 1 + i = n + (i + 1) from by omega] at this
theorem frmOf_ok {bs : List S36} (hb : ∀ x ∈ bs, blkOk bs.length x) : FrmOk bs (frmOf bs) := by
  have hg : ∀ t, t < bs.length → (frmOf bs).getD t [] = fromRow bs 0 t := fun t ht => by
    unfold frmOf
    rw [frmGo_get t bs 0 _ (fun x hx u hu => by rw [List.length_replicate]; exact (hb x hx).nx u hu)]
    simp [List.getElem?_replicate, ht]
  refine ⟨fun t ht b h => ?_, fun b t h1 h2 => ?_, fun t ht => ?_⟩
  · rw [hg t ht] at h
    have := fromRow_rng t bs 0 b h
    omega
  · have ht : t < bs.length := by have := (hb _ (blkAt_mem bs b h1)).nx _ h2; omega
    rw [hg t ht]
    have := fromRow_all t bs 0 b h1 h2
    rwa [Nat.zero_add] at this
  · rw [hg t ht]
    exact fromRow_len t bs 0
theorem setsInv_start {bs : List S36} (hb : ∀ x ∈ bs, blkOk bs.length x) : SetsInv bs (frmOf bs) (List.replicate bs.length zeroW) ((List.range bs.length).map fun i : Nat => (i : Int)).reverse := by
  have hok : insOk bs.length (List.replicate bs.length zeroW) := ⟨List.length_replicate, fun x hx => by rw [List.mem_replicate] at hx; rw [hx.2]; exact okW_zero⟩
  refine ⟨hok, ?_, ?_, ?_⟩
  · intro b h
    rw [List.mem_reverse, List.mem_map] at h
    obtain ⟨i, hi, rfl⟩ := h
    rw [List.mem_range] at hi
    omega
  · intro b h q hq
    rw [List.getD_eq_getElem?_getD, List.getElem?_replicate, if_pos h, Option.getD_some, hasW_zero] at hq
    cases hq
  · intro b h hn
    refine absurd ?_ hn
    rw [List.mem_reverse, List.mem_map]
    exact ⟨b, List.mem_range.2 h, rfl⟩
/-- live.sets -/
def fuelS (n : Nat) : Nat := 1024 * n * (n + 1) + n + 1
def setsS (bs : List S36) : List (List Nat) := (setsGo bs (frmOf bs) (fuelS bs.length) (List.replicate bs.length zeroW) ((List.range bs.length).map fun i : Nat => (i : Int)).reverse).getD []
theorem setsS_spec {bs : List S36} (hb : ∀ x ∈ bs, blkOk bs.length x) :
    setsGo bs (frmOf bs) (fuelS bs.length) (List.replicate bs.length zeroW) ((List.range bs.length).map fun i : Nat => (i : Int)).reverse = some (setsS bs) ∧ insOk bs.length (setsS bs) ∧ ∀ b : Nat, b < bs.length → aheadW (blkAt bs b) 0 (setsS bs) = (setsS bs).getD b [] := by
  obtain ⟨r, h1, h2, h3⟩ := sets_ends hb (frmOf_ok hb) (fuelS bs.length) _ _ (setsInv_start hb) (by
    rw [List.length_reverse, List.length_map, List.length_range]
    have : (1024 * bs.length - bitsOf (List.replicate bs.length zeroW)) * (bs.length + 1) ≤ 1024 * bs.length * (bs.length + 1) := Nat.mul_le_mul_right _ (by omega)
    unfold fuelS
    omega)
  have : setsS bs = r := by unfold setsS; rw [h1]; rfl
  rw [this]
  exact ⟨h1, h2, h3⟩
end Go.Proofs.Ytjmeignhhheckaa.H
namespace Go.Proofs.Ytjmeignhhheckaa.H
open Go.RowKit Go.Maps Go.Proofs.YtjmeignhhheckaaW.PrintWords Go.Proofs.YtjmeignhhheckaaW.PrintLast Go.Proofs.Ytjmeignhhheckaa.Q
set_option maxRecDepth 100000
abbrev RI (w : World) (base : Nat) (v : Value) (xs : List Int) : Prop := Kd.R (Kd.int .i64) 3 w base (fun _ => True) v xs
theorem RI.lt {w : World} {base : Nat} {v : Value} {xs : List Int} (h : RI w base v xs) (k : Nat) (hk : v.ownBlock = some k) : k < w.heap.size := Kd.R_lt h k hk
theorem RI.move {w w1 : World} {base : Nat} {v : Value} {xs : List Int} (h : RI w base v xs) (hm : ∀ k, v.ownBlock = some k → w1.heap[k]? = w.heap[k]?) : RI w1 base v xs :=
  Kd.R_of_own (own_move (Kd.own_of_R h) hm) (fun _ _ => trivial)
theorem RI.typed {w : World} {base : Nat} {v : Value} {xs : List Int} (h : RI w base v xs) (k : Nat) (hk : v.ownBlock = some k) : ∃ cells, w.heap[k]? = some (.cells cells 3 (0, 0)) := own_typed (Kd.own_of_R h) k hk
theorem RI.below {w w1 : World} {base : Nat} {v : Value} {xs : List Int} (h : RI w base v xs) (hb : Below w.heap.size w w1) : RI w1 base v xs := h.move fun k hk => hb.block k (h.lt k hk)
/-- what is written lies in a block of another type -/
theorem RI.other {w w1 : World} {base g t : Nat} {v : Value} {xs : List Int} {C : Array Value} (h : RI w base v xs) (hc : w.heap[g]? = some (.cells C t (0, 0))) (ht : t ≠ 3) (hg : w.grownBy w1 (some g)) : RI w1 base v xs :=
  h.move fun k hk => by
    obtain ⟨cs, hcs⟩ := h.typed k hk
    refine hg.block k (h.lt k hk) (fun e => ?_)
    obtain rfl := Option.some.inj e
    rw [hc] at hcs
    injection hcs with e2
    injection e2 with _ e3 _
    exact ht e3
/-- what is written lies in another row's block -/
theorem RI.apart {w w1 : World} {base : Nat} {v : Value} {xs : List Int} {row : Option Nat} (h : RI w base v xs) (hg : w.grownBy w1 row) (hne : ∀ k, v.ownBlock = some k → row ≠ some k) : RI w1 base v xs :=
  h.move fun k hk => hg.block k (h.lt k hk) (fun e => hne k hk e.symm)
structure FR (w : World) (base g : Nat) (vs : List Value) (rows : List (List Int)) : Prop where
  blk : w.heap[g]? = some (.cells vs.toArray 37 (0, 0))
  len : vs.length = rows.length
  row : ∀ i, i < rows.length → RI w base (vs.getD i undef) (rows.getD i [])
  sep : ∀ i j, i < rows.length → j < rows.length → i ≠ j → ∀ k, (vs.getD i undef).ownBlock = some k → (vs.getD j undef).ownBlock ≠ some k
theorem FR.below {w w1 : World} {base g : Nat} {vs : List Value} {rows : List (List Int)} (h : FR w base g vs rows) (hb : Below w.heap.size w w1) : FR w1 base g vs rows :=
  ⟨blk_below h.blk hb, h.len, fun i hi => (h.row i hi).below hb, h.sep⟩
theorem FR.other {w w1 : World} {base g g2 t : Nat} {vs : List Value} {rows : List (List Int)} {C : Array Value} (h : FR w base g vs rows) (hc : w.heap[g2]? = some (.cells C t (0, 0))) (ht : t ≠ 3) (hne : g ≠ g2) (hg : w.grownBy w1 (some g2)) : FR w1 base g vs rows :=
  ⟨blk_grown h.blk hg (fun e => hne (Option.some.inj e)), h.len, fun i hi => (h.row i hi).other hc ht hg, h.sep⟩
theorem FR.apart {w w1 : World} {base g : Nat} {vs : List Value} {rows : List (List Int)} {row : Option Nat} (h : FR w base g vs rows) (hg : w.grownBy w1 row) (h0 : row ≠ some g) (hne : ∀ i, i < rows.length → ∀ k, (vs.getD i undef).ownBlock = some k → row ≠ some k) : FR w1 base g vs rows :=
  ⟨blk_grown h.blk hg (fun e => h0 e.symm), h.len, fun i hi => (h.row i hi).apart hg (hne i hi), h.sep⟩
theorem getD_set_val {l : List Value} {i j : Nat} {x : Value} (h : i < l.length) : (l.set i x).getD j undef = if i = j then x else l.getD j undef := by
  simp only [List.getD_eq_getElem?_getD]
  by_cases e : i = j
  · subst e; simp [h]
  · rw [List.getElem?_set_ne e, if_neg e]
theorem FR.append {w w1 : World} {base g i : Nat} {vs : List Value} {rows : List (List Int)} {v1 : Value} {ys : List Int} (h : FR w base g vs rows) (hi : i < rows.length) (hR : RI w1 base v1 ys)
    (hg : w.grownBy w1 (vs.getD i undef).ownBlock) (hat : v1.ownBlock = (vs.getD i undef).ownBlock ∨ ∃ b, v1.ownBlock = some b ∧ w.heap.size ≤ b) :
    FR (w1.setCell ⟨g, i, none⟩ v1) base g (vs.set i v1) (rows.set i ys) := by
  have hgi : ∀ j, j < rows.length → ∀ k, (vs.getD j undef).ownBlock = some k → k ≠ g := by
    intro j hj k hk e
    subst e
    obtain ⟨cs, hcs⟩ := (h.row j hj).typed k hk
    rw [h.blk] at hcs
    injection hcs with e2
    injection e2 with _ e3 _
    cases e3
  have hb1 : w1.heap[g]? = some (.cells vs.toArray 37 (0, 0)) := blk_grown h.blk hg (fun e => hgi i hi g e.symm rfl)
  have h1g : ∀ k, v1.ownBlock = some k → k ≠ g := by
    intro k hk e
    subst e
    obtain ⟨cs, hcs⟩ := hR.typed k hk
    rw [hb1] at hcs
    injection hcs with e2
    injection e2 with _ e3 _
    cases e3
  have hvl : i < vs.length := by rw [h.len]; exact hi
  have hsg : w1.grownBy (w1.setCell ⟨g, i, none⟩ v1) (some g) := grown_put1 i v1
  refine ⟨blk_put hb1 i v1 (by simp), by rw [List.length_set, List.length_set]; exact h.len, ?_, ?_⟩
  · intro j hj
    rw [List.length_set] at hj
    rw [getD_set_val hvl, getD_set_rows hi]
    by_cases e : i = j
    · rw [if_pos e, if_pos e]
      exact hR.apart hsg (fun k hk e2 => h1g k hk (Option.some.inj e2).symm)
    · rw [if_neg e, if_neg e]
      refine ((h.row j hj).apart hg (fun k hk e2 => ?_)).apart hsg (fun k hk e2 => hgi j hj k hk (Option.some.inj e2).symm)
      exact h.sep j i hj hi (fun e3 => e e3.symm) k hk e2
  · intro a b ha hb hab k hk
    rw [List.length_set] at ha hb
    rw [getD_set_val hvl] at hk ⊢
    by_cases ea : i = a
    · rw [if_pos ea] at hk
      rw [if_neg (fun e => hab (ea.symm.trans e))]
      rcases hat with hat | ⟨n, hat, hn⟩
      · rw [hat, ea] at hk
        exact h.sep a b ha hb hab k hk
      · rw [hat] at hk
        intro e
        have := (h.row b hb).lt k e
        have := Option.some.inj hk
        omega
    · rw [if_neg ea] at hk
      by_cases eb : i = b
      · rw [if_pos eb]
        rcases hat with hat | ⟨n, hat, hn⟩
        · rw [hat, eb]
          exact h.sep a b ha hb hab k hk
        · rw [hat]
          intro e
          have := (h.row a ha).lt k hk
          have := Option.some.inj e
          omega
      · rw [if_neg eb]
        exact h.sep a b ha hb hab k hk
theorem FR.start {w : World} {base g n : Nat} (hb : w.heap[g]? = some (.cells (List.replicate n (.slice none 0 0)).toArray 37 (0, 0))) : FR w base g (List.replicate n (.slice none 0 0)) (List.replicate n []) := by
  have hv : ∀ i, i < n → (List.replicate n (Value.slice none 0 0)).getD i undef = .slice none 0 0 := fun i hi => by simp [List.getElem?_replicate, hi]
  refine ⟨hb, by simp, fun i hi => ?_, fun i j hi hj _ k hk => ?_⟩
  · rw [List.length_replicate] at hi
    rw [hv i hi, show (List.replicate n ([] : List Int)).getD i [] = [] from by simp [List.getElem?_replicate, hi]]
    exact Kd.R_nil _ _ _ _ _
  · rw [List.length_replicate] at hi
    rw [hv i hi] at hk
    simp [Value.ownBlock] at hk
end Go.Proofs.Ytjmeignhhheckaa.H
namespace Go.Proofs
open Go.Shelf
end Go.Proofs
namespace Go.Proofs.Ytjmeignhhheckaa.H
open Go.RowKit Go.Maps Go.Sort Go.Proofs.YtjmeignhhheckaaW.PrintWords Go.Proofs.YtjmeignhhheckaaW.PrintLast Go.Proofs.Ytjmeignhhheckaa.Q
set_option maxRecDepth 100000
theorem grown_of_below {w w' : World} {row : Option Nat} (h : Below w.heap.size w w') : w.grownBy w' row := ⟨h.os, h.tape, h.output, h.size, fun k hk _ => h.block k hk⟩
end Go.Proofs.Ytjmeignhhheckaa.H
namespace Go.Proofs.Ytjmeignhhheckaa.H
open Go.RowKit Go.Maps Go.Proofs.YtjmeignhhheckaaW.PrintWords Go.Proofs.YtjmeignhhheckaaW.PrintLast Go.Proofs.Ytjmeignhhheckaa.Q
set_option maxRecDepth 100000
theorem madeCells_same (z : Array Value) (u : Value) (hz : ∀ i, i < z.size → z[i]? = some u) (h0 : 0 < z.size) (n : Nat) : madeCells z n = Array.replicate n u := by
  apply Array.ext (by simp [madeCells])
  intro i h1 h2
  simp only [madeCells, Array.getElem_map, Array.getElem_range, Array.getElem_replicate]
  have hm := Nat.mod_lt i h0
  have := hz _ hm
  rw [getElem!_pos z _ hm]
  rw [Array.getElem?_eq_getElem hm] at this
  exact Option.some.inj this
theorem infoS98 : (Try.prog.info? 98).map (fun i => (i.zero, i.size, i.bytes)) = some (some (.agg (Array.replicate 16 (.int .u64 0))), 16, 128) := by kernel_rfl
theorem infoS37 : (Try.prog.info? 37).map (fun i => (i.zero, i.size, i.bytes)) = some (some (.slice none 0 0), 1, 24) := by kernel_rfl
theorem infoS3 : (Try.prog.info? 3).map (fun i => (i.zero, i.size, i.bytes)) = some (some (.int .i64 0), 1, 8) := by kernel_rfl
theorem make94 (n : Nat) (hn : n ≤ 100000) (W : World) : (Instr.makeSlice 94 (.int .i64 n) (.int .i64 n)).run Try.prog W = .ok (.slice (some ⟨W.heap.size, 0, none⟩) n n) (W.alloc (.cells (Array.replicate (n * 16) (.int .u64 0)) 98)) := by
  obtain ⟨i, hi, hzz⟩ := Option.map_eq_some_iff.1 infoS98
  simp only [Prod.mk.injEq] at hzz
  obtain ⟨hz0, hz1, hz2⟩ := hzz
  have := run_make (P := Try.prog) W 94 98 i _ Try.underlying94 hi hz0 .i64 .i64 (n : Int) (n : Int) (by omega) (by omega) (by rw [hz2]; omega) (by omega)
  rw [this, hz1, Int.toNat_natCast, madeCells_same _ (.int .u64 0) (fun j hj => by
    have : j < 16 := by simpa [Value.cells] using hj
    simp [Value.cells, this]) (by simp [Value.cells])]
theorem make28 (n : Nat) (hn : n ≤ 100000) (W : World) : (Instr.makeSlice 28 (.int .i64 n) (.int .i64 n)).run Try.prog W = .ok (.slice (some ⟨W.heap.size, 0, none⟩) n n) (W.alloc (.cells (Array.replicate n (.slice none 0 0)) 37)) := by
  obtain ⟨i, hi, hzz⟩ := Option.map_eq_some_iff.1 infoS37
  simp only [Prod.mk.injEq] at hzz
  obtain ⟨hz0, hz1, hz2⟩ := hzz
  have := run_make (P := Try.prog) W 28 37 i _ Try.underlying28 hi hz0 .i64 .i64 (n : Int) (n : Int) (by omega) (by omega) (by rw [hz2]; omega) (by omega)
  rw [this, hz1, Int.toNat_natCast, Nat.mul_one, madeCells_same _ (.slice none 0 0) (fun j hj => by
    have : j = 0 := by have : j < 1 := by simpa [Value.cells] using hj
                       omega
    subst this; rfl) (by simp [Value.cells])]
theorem make37 (n : Nat) (hn : n ≤ 100000) (W : World) : (Instr.makeSlice 37 (.int .i64 0) (.int .i64 n)).run Try.prog W = .ok (.slice (some ⟨W.heap.size, 0, none⟩) 0 n) (W.alloc (.cells (Array.replicate n (.int .i64 0)) 3)) := by
  obtain ⟨i, hi, hzz⟩ := Option.map_eq_some_iff.1 infoS3
  simp only [Prod.mk.injEq] at hzz
  obtain ⟨hz0, hz1, hz2⟩ := hzz
  have := run_make (P := Try.prog) W 37 3 i _ Try.underlying37 hi hz0 .i64 .i64 0 (n : Int) (by omega) (by omega) (by rw [hz2]; omega) (by omega)
  rw [this, hz1, Int.toNat_natCast, Nat.mul_one, madeCells_same _ (.int .i64 0) (fun j hj => by
    have : j = 0 := by have : j < 1 := by simpa [Value.cells] using hj
                       omega
    subst this; rfl) (by simp [Value.cells])]
  rfl
theorem SR.start {w : World} {g n : Nat} (h : w.heap[g]? = some (.cells (Array.replicate (n * 16) (.int .u64 0)) 98 (0, 0))) : SR w g (List.replicate n zeroW) := by
  refine ⟨⟨_, h, by simp; omega, fun i j hi hj => ?_⟩, fun x hx => by rw [List.mem_replicate] at hx; rw [hx.2]; exact okW_zero⟩
  rw [List.length_replicate] at hi
  have h1 : (List.replicate n zeroW).getD i [] = zeroW := by simp [List.getElem?_replicate, hi]
  have h2 : zeroW.getD j 0 = 0 := by rw [zeroW, List.getD_eq_getElem?_getD, List.getElem?_replicate, if_pos hj]; rfl
  rw [h1, h2, Array.getElem?_replicate, if_pos (by omega)]
  rfl
theorem RI.start {w : World} {base g n : Nat} (hb : base ≤ g) (hn : n ≤ 100000) (h : w.heap[g]? = some (.cells (Array.replicate n (.int .i64 0)) 3 (0, 0))) : RI w base (.slice (some ⟨g, 0, none⟩) 0 n) [] := by
  refine Kd.R_of_own ⟨rfl, .inr ⟨g, n, _, rfl, hb, h, Nat.zero_le _, by unfold maxLen; omega, by simp, rfl⟩⟩ (fun _ _ => trivial)
theorem SR.there {w : World} {g : Nat} {xs : List (List Nat)} (h : SR w g xs) (i : Nat) (hi : i < xs.length) : w.there g (16 * i) 16 := fun j hj => by
  obtain ⟨C, hC, hs, hv⟩ := h.cells
  exact ⟨by rw [blk_cell hC, hv i j hi hj]; rfl, blk_frozen hC _⟩
theorem SR.set {w : World} {g : Nat} {xs : List (List Nat)} (h : SR w g xs) (i : Nat) (hi : i < xs.length) (x : List Nat) (hx : okW x) : SR (w.setCells g (16 * i) (x.map wv)) g (xs.set i x) := by
  obtain ⟨C, hC, hs, hv⟩ := h.cells
  refine ⟨⟨_, blk_puts g (x.map wv) (16 * i) C w hC, by rw [putsC_size, List.length_set]; exact hs, fun a b ha hb => ?_⟩, fun y hy => (List.mem_or_eq_of_mem_set hy).elim (h.ok y) (fun e => e ▸ hx)⟩
  rw [List.length_set] at ha
  rw [putsC_get, getD_set_list hi, List.length_map, hx.1]
  by_cases e : i = a
  · subst e
    rw [if_pos ⟨by omega, by omega, by omega⟩, if_pos rfl, show 16 * i + b - 16 * i = b from by omega, List.getElem?_map]
    have : b < x.length := by rw [hx.1]; exact hb
    simp [this]
  · rw [if_neg (by omega), if_neg e]
    exact hv a b ha hb
theorem SR.grown {w w' : World} {g : Nat} {xs : List (List Nat)} {row : Option Nat} (h : SR w g xs) (hg : w.grownBy w' row) (hne : some g ≠ row) : SR w' g xs := by
  obtain ⟨C, hC, r⟩ := h.cells
  exact ⟨⟨C, blk_grown hC hg hne, r⟩, h.ok⟩
end Go.Proofs.Ytjmeignhhheckaa.H
namespace Go.Proofs.Ytjmeignhhheckaa.H
open Go.RowKit Go.Maps Go.Proofs.YtjmeignhhheckaaW.PrintWords Go.Proofs.YtjmeignhhheckaaW.PrintLast Go.Proofs.Ytjmeignhhheckaa.Q
set_option maxRecDepth 100000
theorem part96 (xs : List Nat) (i : Nat) (hi : i < xs.length) (w : World) : (part 96 (xs.map wv).toArray i).run Try.prog w = .ok (.int .u64 ((xs.getD i 0 : Nat) : Int)) w := by
  simp [part, isAgg, run_underlying Try.underlying96, hi, wv]
theorem eqItems98 (xs ys : List Nat) (hx : xs.length = 16) (hy : ys.length = 16) (w : World) : ∀ (is : List Nat), (∀ i ∈ is, i < 16) →
    (Op.eqItems 9999 96 1 (xs.map wv).toArray (ys.map wv).toArray is).run Try.prog w = .ok (is.all fun i => xs.getD i 0 == ys.getD i 0) w
  | [], _ => by simp [Op.eqItems]
  | i :: is, h => by
    have hi := h i (by simp)
    have ih := eqItems98 xs ys hx hy w is (fun j hj => h j (by simp [hj]))
    have he : (Op.equalIn 9999 96 (.int .u64 ((xs.getD i 0 : Nat) : Int)) (.int .u64 ((ys.getD i 0 : Nat) : Int))).run Try.prog w = .ok (((xs.getD i 0 : Nat) : Int) == ((ys.getD i 0 : Nat) : Int)) w := run_equalIn_int w 9998 96 .u64 .u64 _ _ Try.underlying96
    have hb : (((xs.getD i 0 : Nat) : Int) == ((ys.getD i 0 : Nat) : Int)) = (xs.getD i 0 == ys.getD i 0) := by
      rw [Bool.eq_iff_iff]
      simp only [beq_iff_eq]
      omega
    rw [Op.eqItems]
    simp only [Nat.mul_one, Sem.run_bind, part96 xs i (by omega) w, part96 ys i (by omega) w, Result.andThen_ok, he, hb, List.all_cons]
    cases hq : (xs.getD i 0 == ys.getD i 0)
    · simp
    · simpa using ih
theorem eq98 (xs ys : List Nat) (hx : xs.length = 16) (hy : ys.length = 16) (w : World) : (Op.equalIn 10000 98 (.agg (xs.map wv).toArray) (.agg (ys.map wv).toArray)).run Try.prog w = .ok (decide (xs = ys)) w := by
  obtain ⟨i, hi, _⟩ := Option.map_eq_some_iff.1 info96
  have h1 : Try.prog.cellsOf 96 = 1 := by kernel_rfl
  have h := run_equalIn_array (P := Try.prog) (w := w) 9999 (xs.map wv).toArray (ys.map wv).toArray Try.underlying98 hi
  rw [h1, eqItems98 xs ys hx hy w (List.range 16) (fun j hj => List.mem_range.1 hj)] at h
  refine h.trans ?_
  congr 1
  rw [Bool.eq_iff_iff, List.all_eq_true, decide_eq_true_eq]
  refine ⟨fun hh => ?_, fun e i _ => by rw [e]; simp⟩
  apply List.ext_getElem (by rw [hx, hy])
  intro j h1 h2
  have := hh j (List.mem_range.2 (by omega))
  simpa [h1, h2] using this
end Go.Proofs.Ytjmeignhhheckaa.H

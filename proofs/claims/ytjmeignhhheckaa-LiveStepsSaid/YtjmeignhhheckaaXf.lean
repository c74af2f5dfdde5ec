/- Part 6 of the proof: contracts of the functions that are reached, and the plain law. -/
import Derived.Test.YtjmeignhhheckaaXe
import Derived.Deep.Slices
import Derived.Lib.SmallJoins
import Derived.SizedLaws
import Derived.ProofKit
import Derived.OpenShut
import Derived.ShutString
import Derived.ChangeOld
set_option linter.unusedVariables false
set_option linter.unusedSimpArgs false
namespace Go.Proofs.Ytjmeignhhheckaa.Q
open Go.RowKit Go.Proofs.YtjmeignhhheckaaW.PrintWords Go.Proofs.YtjmeignhhheckaaW.PrintLast Go.Proofs.YtjmeignhhheckaaW.PrintMore
attribute [local go_sem] max2_int min2_int max_two min_two max_three min_three max_four min_four   -- for this text's walks alone
set_option linter.unusedVariables false
set_option linter.unusedSimpArgs false
mutual
def turnstileref09_Reads.j0 : Nat → Int → Bool → Int → Int → Int → Int → Int → Int → Option (List Int)
  | 0, _, _, _, _, _, _, _, _ => none
  | k + 1, x4, x5, x216000, x216001, x216002, x216003, x216004, x216005 => if x5 = true then (some (([x216003] : List Int))) else (if x4 = 3 then (some (([x216003, x216004] : List Int))) else (if x4 = 8 then (turnstileref09_Reads.j1 k x4 (x4 == 8) x216000 x216001 x216002 x216003 x216004 x216005) else (turnstileref09_Reads.j1 k x4 (x4 == 10) x216000 x216001 x216002 x216003 x216004 x216005)))
def turnstileref09_Reads.j1 : Nat → Int → Bool → Int → Int → Int → Int → Int → Int → Option (List Int)
  | 0, _, _, _, _, _, _, _, _ => none
  | k + 1, x4, x20, x216000, x216001, x216002, x216003, x216004, x216005 => if x20 = true then (if x216004 < 0 then (some (([x216003] : List Int))) else (some (([x216003, x216004] : List Int)))) else (if x4 = 9 then (turnstileref09_Reads.j2 k (x4 == 9) x216000 x216001 x216002 x216003 x216004 x216005) else (turnstileref09_Reads.j2 k (x4 == 11) x216000 x216001 x216002 x216003 x216004 x216005))
def turnstileref09_Reads.j2 : Nat → Bool → Int → Int → Int → Int → Int → Int → Option (List Int)
  | 0, _, _, _, _, _, _, _ => none
  | k + 1, x34, x216000, x216001, x216002, x216003, x216004, x216005 => if x34 = true then (if x216004 < 0 then (some (([x216002, x216003] : List Int))) else (some (([x216002, x216003, x216004] : List Int)))) else (some ([] : List Int))
end
def turnstileref09_Reads.f (k : Nat) (a0_0 : Int) (a0_1 : Int) (a0_2 : Int) (a0_3 : Int) (a0_4 : Int) (a0_5 : Int) : Option (List Int) := if a0_0 = 2 then (turnstileref09_Reads.j0 k a0_0 (a0_0 == 2) a0_0 a0_1 a0_2 a0_3 a0_4 a0_5) else (if a0_0 = 4 then (turnstileref09_Reads.j0 k a0_0 (a0_0 == 4) a0_0 a0_1 a0_2 a0_3 a0_4 a0_5) else (if a0_0 = 5 then (turnstileref09_Reads.j0 k a0_0 (a0_0 == 5) a0_0 a0_1 a0_2 a0_3 a0_4 a0_5) else (turnstileref09_Reads.j0 k a0_0 (a0_0 == 12) a0_0 a0_1 a0_2 a0_3 a0_4 a0_5)))
theorem turnstileref09_Reads.mono_l : ∀ k, (∀ y0 y1 y2 y3 y4 y5 y6 y7, LeO (turnstileref09_Reads.j0 k y0 y1 y2 y3 y4 y5 y6 y7) (turnstileref09_Reads.j0 (k + 1) y0 y1 y2 y3 y4 y5 y6 y7)) ∧ (∀ y0 y1 y2 y3 y4 y5 y6 y7, LeO (turnstileref09_Reads.j1 k y0 y1 y2 y3 y4 y5 y6 y7) (turnstileref09_Reads.j1 (k + 1) y0 y1 y2 y3 y4 y5 y6 y7)) ∧ (∀ y0 y1 y2 y3 y4 y5 y6, LeO (turnstileref09_Reads.j2 k y0 y1 y2 y3 y4 y5 y6) (turnstileref09_Reads.j2 (k + 1) y0 y1 y2 y3 y4 y5 y6))
  | 0 => ⟨fun _ _ _ _ _ _ _ _ r h => by simp [turnstileref09_Reads.j0] at h, fun _ _ _ _ _ _ _ _ r h => by simp [turnstileref09_Reads.j1] at h, fun _ _ _ _ _ _ _ r h => by simp [turnstileref09_Reads.j2] at h⟩
  | k + 1 => by
    obtain ⟨ih0, ih1, ih2⟩ := turnstileref09_Reads.mono_l k
    refine ⟨?_, ?_, ?_⟩
    · intro y0 y1 y2 y3 y4 y5 y6 y7
      unfold turnstileref09_Reads.j0
      repeat' first
      | (with_reducible exact ih0 _ _ _ _ _ _ _ _)
      | (with_reducible exact ih1 _ _ _ _ _ _ _ _)
      | (with_reducible exact ih2 _ _ _ _ _ _ _)
      | (with_reducible exact LeO.refl _)
      | (with_reducible exact LeO.none _)
      | (with_reducible refine LeO.ite ?_ ?_)
      | (with_reducible refine LeO.bind ?_ (fun _ => ?_))
      | exact ih0 _ _ _ _ _ _ _ _
      | exact ih1 _ _ _ _ _ _ _ _
      | exact ih2 _ _ _ _ _ _ _
      | exact LeO.none _
      | refine LeO.ite ?_ ?_
      | refine LeO.bind ?_ (fun _ => ?_)
    · intro y0 y1 y2 y3 y4 y5 y6 y7
      unfold turnstileref09_Reads.j1
      repeat' first
      | (with_reducible exact ih0 _ _ _ _ _ _ _ _)
      | (with_reducible exact ih1 _ _ _ _ _ _ _ _)
      | (with_reducible exact ih2 _ _ _ _ _ _ _)
      | (with_reducible exact LeO.refl _)
      | (with_reducible exact LeO.none _)
      | (with_reducible refine LeO.ite ?_ ?_)
      | (with_reducible refine LeO.bind ?_ (fun _ => ?_))
      | exact ih0 _ _ _ _ _ _ _ _
      | exact ih1 _ _ _ _ _ _ _ _
      | exact ih2 _ _ _ _ _ _ _
      | exact LeO.none _
      | refine LeO.ite ?_ ?_
      | refine LeO.bind ?_ (fun _ => ?_)
    · intro y0 y1 y2 y3 y4 y5 y6
      unfold turnstileref09_Reads.j2
      repeat' first
      | (with_reducible exact ih0 _ _ _ _ _ _ _ _)
      | (with_reducible exact ih1 _ _ _ _ _ _ _ _)
      | (with_reducible exact ih2 _ _ _ _ _ _ _)
      | (with_reducible exact LeO.refl _)
      | (with_reducible exact LeO.none _)
      | (with_reducible refine LeO.ite ?_ ?_)
      | (with_reducible refine LeO.bind ?_ (fun _ => ?_))
      | exact ih0 _ _ _ _ _ _ _ _
      | exact ih1 _ _ _ _ _ _ _ _
      | exact ih2 _ _ _ _ _ _ _
      | exact LeO.none _
      | refine LeO.ite ?_ ?_
      | refine LeO.bind ?_ (fun _ => ?_)
theorem turnstileref09_Reads.mono : ∀ a0 a1 a2 a3 a4 a5 k, LeO (turnstileref09_Reads.f k a0 a1 a2 a3 a4 a5) (turnstileref09_Reads.f (k + 1) a0 a1 a2 a3 a4 a5) := by
  intro a0 a1 a2 a3 a4 a5 k
  obtain ⟨ih0, ih1, ih2⟩ := turnstileref09_Reads.mono_l k
  unfold turnstileref09_Reads.f
  repeat' first
      | (with_reducible exact ih0 _ _ _ _ _ _ _ _)
      | (with_reducible exact ih1 _ _ _ _ _ _ _ _)
      | (with_reducible exact ih2 _ _ _ _ _ _ _)
      | (with_reducible exact LeO.refl _)
      | (with_reducible exact LeO.none _)
      | (with_reducible refine LeO.ite ?_ ?_)
      | (with_reducible refine LeO.bind ?_ (fun _ => ?_))
      | exact ih0 _ _ _ _ _ _ _ _
      | exact ih1 _ _ _ _ _ _ _ _
      | exact ih2 _ _ _ _ _ _ _
      | exact LeO.none _
      | refine LeO.ite ?_ ?_
      | refine LeO.bind ?_ (fun _ => ?_)
set_option maxHeartbeats 8000000 in
set_option maxRecDepth 100000 in
theorem turnstileref09_Reads.calls (k : Nat) (a0_0 : Int) (a0_1 : Int) (a0_2 : Int) (a0_3 : Int) (a0_4 : Int) (a0_5 : Int) (r : List Int) (w : World) (h : turnstileref09_Reads.f k a0_0 a0_1 a0_2 a0_3 a0_4 a0_5 = some r) :
    Calls Try.prog 18 #[.agg #[.int .u8 a0_0, .int .u8 a0_1, .int .i64 a0_2, .int .i64 a0_3, .int .i64 a0_4, .int .i64 a0_5]] w fun e w' => ∃ v0_ : Value, e = .returned (v0_) ∧ Kd.R (Kd.int .i64) 3 w' w.heap.size (fun _ => True) v0_ r ∧ Below w.heap.size w w' := by
  have hu46 := Try.underlying46
  have HB := Aside0.mk (Below.refl w.heap.size w)
  have H : (if a0_0 = 2 then (turnstileref09_Reads.j0 k a0_0 (a0_0 == 2) a0_0 a0_1 a0_2 a0_3 a0_4 a0_5) else (if a0_0 = 4 then (turnstileref09_Reads.j0 k a0_0 (a0_0 == 4) a0_0 a0_1 a0_2 a0_3 a0_4 a0_5) else (if a0_0 = 5 then (turnstileref09_Reads.j0 k a0_0 (a0_0 == 5) a0_0 a0_1 a0_2 a0_3 a0_4 a0_5) else (turnstileref09_Reads.j0 k a0_0 (a0_0 == 12) a0_0 a0_1 a0_2 a0_3 a0_4 a0_5)))) = some r := h
  clear h
  have HC2 := Aside0.mk H
  clear H
  go_enter Try.func18, Try.ntmps18
  go_upto_if 5 with (first | ((with_reducible refine gate_dst (N := 1) rfl ?_); refine box_event ?hg (N := 1) ?hd (cs := #[.int .u8 a0_0, .int .u8 a0_1, .int .i64 a0_2, .int .i64 a0_3, .int .i64 a0_4, .int .i64 a0_5]) (t := 46) ?hr ?_; (case hd => rfl); (case hg => rfl); (case hr => first | (go_simp; done) | (go_simp; rfl)); intro gb215 hg w3 hbox hb; have n0_ := Aside0.mk (below_step (by repeat (first | (with_reducible first | exact HB.out | apply below_alloc | apply pw_below_drewN | apply below_drew1) | exact HB.out)) hb); have n1_ := Aside0.mk (hbox); have n2_ := Aside0.mk ((by rw [hg]; exact (below_size (by repeat (first | (with_reducible first | exact HB.out | apply below_alloc | apply pw_below_drewN | apply below_drew1) | exact HB.out))) : w.heap.size ≤ gb215)); have n3_ := Aside0.mk ((by rw [hg]; exact (below_size (by repeat (first | (with_reducible first | exact HB.out | apply below_alloc | apply pw_below_drewN | apply below_drew1) | exact HB.out))) : w.heap.size ≤ gb215)); clear HB; have HB := n0_; have BK215 := n1_; have GW215 := n2_; have GE215 := n3_; clear n0_ n1_ n2_ n3_; clear hb hbox hg; have hcz4_0 : w3.cell? ⟨gb215, 0, none⟩ = some (.int .u8 a0_0) := (blk_cell BK215.out 0).trans rfl; have hcz4_1 : w3.cell? ⟨gb215, 1, none⟩ = some (.int .u8 a0_1) := (blk_cell BK215.out 1).trans rfl; have hcz4_2 : w3.cell? ⟨gb215, 2, none⟩ = some (.int .i64 a0_2) := (blk_cell BK215.out 2).trans rfl; have hcz4_3 : w3.cell? ⟨gb215, 3, none⟩ = some (.int .i64 a0_3) := (blk_cell BK215.out 3).trans rfl; have hcz4_4 : w3.cell? ⟨gb215, 4, none⟩ = some (.int .i64 a0_4) := (blk_cell BK215.out 4).trans rfl; have hcz4_5 : w3.cell? ⟨gb215, 5, none⟩ = some (.int .i64 a0_5) := (blk_cell BK215.out 5).trans rfl; have hfz4_0 := blk_frozen BK215.out 0; have hfz4_1 := blk_frozen BK215.out 1; have hfz4_2 := blk_frozen BK215.out 2; have hfz4_3 := blk_frozen BK215.out 3; have hfz4_4 := blk_frozen BK215.out 4; have hfz4_5 := blk_frozen BK215.out 5))
  (try simp only [Act.put, List.setIfInBounds_toArray, List.set_cons_zero, List.set_cons_succ])
  go_cut [5] (fun v5 wc => ∃ (kq : Nat) (x5_1 : Bool), v5 = .bool x5_1 ∧ Aside0 (turnstileref09_Reads.j0 kq a0_0 x5_1 a0_0 a0_1 a0_2 a0_3 a0_4 a0_5 = some r) ∧ Aside0 (kq ≤ k) ∧ Aside0 (wc.heap[gb215]? = some (.cells #[.int .u8 a0_0, .int .u8 a0_1, .int .i64 a0_2, .int .i64 a0_3, .int .i64 a0_4, .int .i64 a0_5] 46 (0, 0))) ∧ Aside0 (Below w.heap.size w wc))
  case first =>
    have H := HC2.out
    clear HC2
    by_cases c5 : a0_0 = 2
    · rw [if_pos c5] at H
      have c5b0 : (a0_0 == 2) = true := beq_iff_eq.mpr c5
      have c5b1 : (a0_0 != 2) = false := bne_eq_false_iff_eq.mpr c5
      clear c5
      (first | rw [c5b0] | (simp only [i64_w, i32_w]; rw [c5b0]) | skip)
      have H' := Aside0.mk H
      clear H
      go_wp2
      go_meet
      case rel => exact ⟨_, ((a0_0 == 2)), (by first | rfl | (simp; done) | (simp [*]; done)), H', ⟨by first | omega | exact Nat.le_refl _⟩, ⟨by (with_reducible repeat (first | refine blk_drewN ?_ _ | refine blk_drew ?_ | refine blk_alloc ?_ _)); exact BK215.out⟩, ⟨by repeat (first | (with_reducible first | exact HB.out | apply below_alloc | apply pw_below_drewN | apply below_drew1 | refine below_set ?_ GE215.out) | exact HB.out)⟩⟩
    · rw [if_neg c5] at H
      have c5b0 : (a0_0 == 2) = false := beq_eq_false_iff_ne.mpr c5
      have c5b1 : (a0_0 != 2) = true := bne_iff_ne.mpr c5
      (first | rw [c5b0] | (simp only [i64_w, i32_w]; rw [c5b0]) | skip)
      by_cases c6 : a0_0 = 4
      · rw [if_pos c6] at H
        have c6b0 : (a0_0 == 4) = true := beq_iff_eq.mpr c6
        have c6b1 : (a0_0 != 4) = false := bne_eq_false_iff_eq.mpr c6
        clear c6
        have H' := Aside0.mk H
        clear H
        go_wp2
        go_meet
        case rel => exact ⟨_, ((a0_0 == 4)), (by first | rfl | (simp; done) | (simp [*]; done)), H', ⟨by first | omega | exact Nat.le_refl _⟩, ⟨by (with_reducible repeat (first | refine blk_drewN ?_ _ | refine blk_drew ?_ | refine blk_alloc ?_ _)); exact BK215.out⟩, ⟨by repeat (first | (with_reducible first | exact HB.out | apply below_alloc | apply pw_below_drewN | apply below_drew1 | refine below_set ?_ GE215.out) | exact HB.out)⟩⟩
      · rw [if_neg c6] at H
        have c6b0 : (a0_0 == 4) = false := beq_eq_false_iff_ne.mpr c6
        have c6b1 : (a0_0 != 4) = true := bne_iff_ne.mpr c6
        by_cases c7 : a0_0 = 5
        · rw [if_pos c7] at H
          have c7b0 : (a0_0 == 5) = true := beq_iff_eq.mpr c7
          have c7b1 : (a0_0 != 5) = false := bne_eq_false_iff_eq.mpr c7
          clear c7
          have H' := Aside0.mk H
          clear H
          go_wp2
          go_meet
          case rel => exact ⟨_, ((a0_0 == 5)), (by first | rfl | (simp; done) | (simp [*]; done)), H', ⟨by first | omega | exact Nat.le_refl _⟩, ⟨by (with_reducible repeat (first | refine blk_drewN ?_ _ | refine blk_drew ?_ | refine blk_alloc ?_ _)); exact BK215.out⟩, ⟨by repeat (first | (with_reducible first | exact HB.out | apply below_alloc | apply pw_below_drewN | apply below_drew1 | refine below_set ?_ GE215.out) | exact HB.out)⟩⟩
        · rw [if_neg c7] at H
          have c7b0 : (a0_0 == 5) = false := beq_eq_false_iff_ne.mpr c7
          have c7b1 : (a0_0 != 5) = true := bne_iff_ne.mpr c7
          have H' := Aside0.mk H
          clear H
          go_wp2
          go_meet
          case rel => exact ⟨_, ((a0_0 == 12)), (by first | rfl | (simp; done) | (simp [*]; done)), H', ⟨by first | omega | exact Nat.le_refl _⟩, ⟨by (with_reducible repeat (first | refine blk_drewN ?_ _ | refine blk_drew ?_ | refine blk_alloc ?_ _)); exact BK215.out⟩, ⟨by repeat (first | (with_reducible first | exact HB.out | apply below_alloc | apply pw_below_drewN | apply below_drew1 | refine below_set ?_ GE215.out) | exact HB.out)⟩⟩
  case rest =>
    clear HC2
    try clear c1
    try clear p2
    try clear c5
    try clear c5b0
    try clear c5b1
    try clear c6
    try clear c6b0
    try clear c6b1
    try clear c7
    try clear c7b0
    try clear c7b1
    try clear hcz4_0
    try clear hcz4_1
    try clear hcz4_2
    try clear hcz4_3
    try clear hcz4_4
    try clear hcz4_5
    try clear hfz4_0
    try clear hfz4_1
    try clear hfz4_2
    try clear hfz4_3
    try clear hfz4_4
    try clear hfz4_5
    obtain ⟨kq, x5_1, rfl, HA, HJ1, BK215, HB⟩ := hcut
    cases kq with
    | zero => exact absurd HA.out (by simp [turnstileref09_Reads.j0])
    | succ kj1 =>
      have H := HA.out
      clear HA
      simp only [turnstileref09_Reads.j0] at H
      by_cases c8 : x5_1 = true
      · subst c8
        have H1 : (some (([a0_3] : List Int))) = some r := by rw [if_pos rfl] at H; exact H
        clear H
        have H := H1
        clear H1
        obtain ⟨y216, hy216⟩ : ∃ y_ : List Int, y_ = (([a0_3] : List Int)) := ⟨_, rfl⟩
        replace H : (some y216) = some r := by first | (rw [hy216]; with_reducible exact H) | (have H2_ := (Option.bind_some _ _).symm.trans H; rw [hy216]; with_reducible exact H2_) | (have H2_ := (Option.bind_some _ _).symm.trans H; with_reducible exact H2_) | with_reducible exact H | (rw [hy216]; exact H) | exact H
        have Ny216 := Aside0.mk hy216
        clear hy216
        obtain rfl := Option.some.inj H
        have hcz9_0 : wc.cell? ⟨gb215, 0, none⟩ = some (.int .u8 a0_0) := (blk_cell BK215.out 0).trans rfl
        have hcz9_1 : wc.cell? ⟨gb215, 1, none⟩ = some (.int .u8 a0_1) := (blk_cell BK215.out 1).trans rfl
        have hcz9_2 : wc.cell? ⟨gb215, 2, none⟩ = some (.int .i64 a0_2) := (blk_cell BK215.out 2).trans rfl
        have hcz9_3 : wc.cell? ⟨gb215, 3, none⟩ = some (.int .i64 a0_3) := (blk_cell BK215.out 3).trans rfl
        have hcz9_4 : wc.cell? ⟨gb215, 4, none⟩ = some (.int .i64 a0_4) := (blk_cell BK215.out 4).trans rfl
        have hcz9_5 : wc.cell? ⟨gb215, 5, none⟩ = some (.int .i64 a0_5) := (blk_cell BK215.out 5).trans rfl
        have hfz9_0 := blk_frozen BK215.out 0
        have hfz9_1 := blk_frozen BK215.out 1
        have hfz9_2 := blk_frozen BK215.out 2
        have hfz9_3 := blk_frozen BK215.out 3
        have hfz9_4 := blk_frozen BK215.out 4
        have hfz9_5 := blk_frozen BK215.out 5
        go_wp2_with (first | ((with_reducible refine gate_dst (N := 12) rfl ?_); refine Kd.R_lit (Kd.int .i64) _ 3 ?hg (N := 12) ?hd (xs := ([a0_3] : List Int)) (inner := [.int .i64 a0_3]) (ok := fun _ => True) (okp := fun _ => True) ?hr ?hp (fun _ hk => hk) trivial (Below.refl _ _) (Nat.le_refl _) (by simp) ?_; (case hd => rfl); (case hg => rfl); (case hr => first | (go_simp; done) | (go_simp; rfl)); (case hp => exact (Reps.one (show Kd.M (Kd.int .i64) _ _ _ a0_3 [.int .i64 a0_3] from rfl) (Reps.none _ _))); intro v217 w10 ho11 hb hg_ hnew_; clear hg_ hnew_; (first | rw [← Ny216.out] at ho11 | (simp only [Int.reduceToNat] at ho11; rw [← Ny216.out] at ho11)); have n0_ := Aside0.mk (Kd.R_lower ho11 (below_size (by repeat (first | (with_reducible first | exact HB.out | apply below_alloc | apply pw_below_drewN | apply below_drew1 | refine below_set ?_ GE215.out) | exact HB.out)))); have n1_ := Aside0.mk (blk_below (g := gb215) (o := .cells #[.int .u8 a0_0, .int .u8 a0_1, .int .i64 a0_2, .int .i64 a0_3, .int .i64 a0_4, .int .i64 a0_5] 46 (0, 0)) (by (with_reducible repeat (first | refine blk_drewN ?_ _ | refine blk_drew ?_ | refine blk_alloc ?_ _)); exact BK215.out) hb); have n2_ := Aside0.mk (below_step (by repeat (first | (with_reducible first | exact HB.out | apply below_alloc | apply pw_below_drewN | apply below_drew1 | refine below_set ?_ GE215.out) | exact HB.out)) hb); clear BK215; clear HB; have HO218 := n0_; have BK215 := n1_; have HB := n2_; clear n0_ n1_ n2_; clear hb ho11))
        go_ret
        exact ⟨_, by first | rfl | (simp [errW_none, errW_some] <;> rfl) | (simp [*, errW_none, errW_some] <;> rfl), by (with_reducible repeat (first | apply Kd.R_alloc | apply Kd.R_drewN | apply Kd.R_drew)); exact HO218.out, by repeat (first | (with_reducible first | exact HB.out | apply below_alloc | apply pw_below_drewN | apply below_drew1 | refine below_set ?_ GE215.out) | exact HB.out)⟩
      · replace c8 := Bool.eq_false_iff.mpr c8
        subst c8
        have H1 : (if a0_0 = 3 then (some (([a0_3, a0_4] : List Int))) else (if a0_0 = 8 then (turnstileref09_Reads.j1 kj1 a0_0 (a0_0 == 8) a0_0 a0_1 a0_2 a0_3 a0_4 a0_5) else (turnstileref09_Reads.j1 kj1 a0_0 (a0_0 == 10) a0_0 a0_1 a0_2 a0_3 a0_4 a0_5))) = some r := by rw [if_neg (show ¬ (false = true) by decide)] at H; exact H
        clear H
        have H := H1
        clear H1
        by_cases c12 : a0_0 = 3
        · rw [if_pos c12] at H
          have c12b0 : (a0_0 == 3) = true := beq_iff_eq.mpr c12
          have c12b1 : (a0_0 != 3) = false := bne_eq_false_iff_eq.mpr c12
          clear c12
          obtain ⟨y219, hy219⟩ : ∃ y_ : List Int, y_ = (([a0_3, a0_4] : List Int)) := ⟨_, rfl⟩
          replace H : (some y219) = some r := by first | (rw [hy219]; with_reducible exact H) | (have H2_ := (Option.bind_some _ _).symm.trans H; rw [hy219]; with_reducible exact H2_) | (have H2_ := (Option.bind_some _ _).symm.trans H; with_reducible exact H2_) | with_reducible exact H | (rw [hy219]; exact H) | exact H
          have Ny219 := Aside0.mk hy219
          clear hy219
          obtain rfl := Option.some.inj H
          have hcz13_0 : wc.cell? ⟨gb215, 0, none⟩ = some (.int .u8 a0_0) := (blk_cell BK215.out 0).trans rfl
          have hcz13_1 : wc.cell? ⟨gb215, 1, none⟩ = some (.int .u8 a0_1) := (blk_cell BK215.out 1).trans rfl
          have hcz13_2 : wc.cell? ⟨gb215, 2, none⟩ = some (.int .i64 a0_2) := (blk_cell BK215.out 2).trans rfl
          have hcz13_3 : wc.cell? ⟨gb215, 3, none⟩ = some (.int .i64 a0_3) := (blk_cell BK215.out 3).trans rfl
          have hcz13_4 : wc.cell? ⟨gb215, 4, none⟩ = some (.int .i64 a0_4) := (blk_cell BK215.out 4).trans rfl
          have hcz13_5 : wc.cell? ⟨gb215, 5, none⟩ = some (.int .i64 a0_5) := (blk_cell BK215.out 5).trans rfl
          have hfz13_0 := blk_frozen BK215.out 0
          have hfz13_1 := blk_frozen BK215.out 1
          have hfz13_2 := blk_frozen BK215.out 2
          have hfz13_3 := blk_frozen BK215.out 3
          have hfz13_4 := blk_frozen BK215.out 4
          have hfz13_5 := blk_frozen BK215.out 5
          go_wp2_with (first | ((with_reducible refine gate_dst (N := 19) rfl ?_); refine Kd.R_lit (Kd.int .i64) _ 3 ?hg (N := 19) ?hd (xs := ([a0_3, a0_4] : List Int)) (inner := [.int .i64 a0_3, .int .i64 a0_4]) (ok := fun _ => True) (okp := fun _ => True) ?hr ?hp (fun _ hk => hk) trivial (Below.refl _ _) (Nat.le_refl _) (by simp) ?_; (case hd => rfl); (case hg => rfl); (case hr => first | (go_simp; done) | (go_simp; rfl)); (case hp => exact (Reps.one (show Kd.M (Kd.int .i64) _ _ _ a0_3 [.int .i64 a0_3] from rfl) (Reps.one (show Kd.M (Kd.int .i64) _ _ _ a0_4 [.int .i64 a0_4] from rfl) (Reps.none _ _)))); intro v220 w14 ho15 hb hg_ hnew_; clear hg_ hnew_; (first | rw [← Ny219.out] at ho15 | (simp only [Int.reduceToNat] at ho15; rw [← Ny219.out] at ho15)); have n0_ := Aside0.mk (Kd.R_lower ho15 (below_size (by repeat (first | (with_reducible first | exact HB.out | apply below_alloc | apply pw_below_drewN | apply below_drew1 | refine below_set ?_ GE215.out) | exact HB.out)))); have n1_ := Aside0.mk (blk_below (g := gb215) (o := .cells #[.int .u8 a0_0, .int .u8 a0_1, .int .i64 a0_2, .int .i64 a0_3, .int .i64 a0_4, .int .i64 a0_5] 46 (0, 0)) (by (with_reducible repeat (first | refine blk_drewN ?_ _ | refine blk_drew ?_ | refine blk_alloc ?_ _)); exact BK215.out) hb); have n2_ := Aside0.mk (below_step (by repeat (first | (with_reducible first | exact HB.out | apply below_alloc | apply pw_below_drewN | apply below_drew1 | refine below_set ?_ GE215.out) | exact HB.out)) hb); clear BK215; clear HB; have HO221 := n0_; have BK215 := n1_; have HB := n2_; clear n0_ n1_ n2_; clear hb ho15))
          go_ret
          exact ⟨_, by first | rfl | (simp [errW_none, errW_some] <;> rfl) | (simp [*, errW_none, errW_some] <;> rfl), by (with_reducible repeat (first | apply Kd.R_alloc | apply Kd.R_drewN | apply Kd.R_drew)); exact HO221.out, by repeat (first | (with_reducible first | exact HB.out | apply below_alloc | apply pw_below_drewN | apply below_drew1 | refine below_set ?_ GE215.out) | exact HB.out)⟩
        · rw [if_neg c12] at H
          have c12b0 : (a0_0 == 3) = false := beq_eq_false_iff_ne.mpr c12
          have c12b1 : (a0_0 != 3) = true := bne_iff_ne.mpr c12
          have HC16 := Aside0.mk H
          clear H
          go_upto_if 20 with (fail)
          go_cut [20] (fun v20 wc => ∃ (kq : Nat) (x20_15 : Bool), v20 = .bool x20_15 ∧ Aside0 (turnstileref09_Reads.j1 kq a0_0 x20_15 a0_0 a0_1 a0_2 a0_3 a0_4 a0_5 = some r) ∧ Aside0 (kq ≤ kj1) ∧ Aside0 (wc.heap[gb215]? = some (.cells #[.int .u8 a0_0, .int .u8 a0_1, .int .i64 a0_2, .int .i64 a0_3, .int .i64 a0_4, .int .i64 a0_5] 46 (0, 0))) ∧ Aside0 (Below w.heap.size w wc))
          case first =>
            have H := HC16.out
            clear HC16
            by_cases c17 : a0_0 = 8
            · rw [if_pos c17] at H
              have c17b0 : (a0_0 == 8) = true := beq_iff_eq.mpr c17
              have c17b1 : (a0_0 != 8) = false := bne_eq_false_iff_eq.mpr c17
              clear c17
              (first | rw [c17b0] | (simp only [i64_w, i32_w]; rw [c17b0]) | skip)
              have H' := Aside0.mk H
              clear H
              go_wp2
              go_meet
              case rel => exact ⟨_, ((a0_0 == 8)), (by first | rfl | (simp; done) | (simp [*]; done)), H', ⟨by have := HJ1.out; first | omega | exact Nat.le_refl _⟩, ⟨by (with_reducible repeat (first | refine blk_drewN ?_ _ | refine blk_drew ?_ | refine blk_alloc ?_ _)); exact BK215.out⟩, ⟨by repeat (first | (with_reducible first | exact HB.out | apply below_alloc | apply pw_below_drewN | apply below_drew1 | refine below_set ?_ GE215.out) | exact HB.out)⟩⟩
            · rw [if_neg c17] at H
              have c17b0 : (a0_0 == 8) = false := beq_eq_false_iff_ne.mpr c17
              have c17b1 : (a0_0 != 8) = true := bne_iff_ne.mpr c17
              (first | rw [c17b0] | (simp only [i64_w, i32_w]; rw [c17b0]) | skip)
              have H' := Aside0.mk H
              clear H
              go_wp2
              go_meet
              case rel => exact ⟨_, ((a0_0 == 10)), (by first | rfl | (simp; done) | (simp [*]; done)), H', ⟨by have := HJ1.out; first | omega | exact Nat.le_refl _⟩, ⟨by (with_reducible repeat (first | refine blk_drewN ?_ _ | refine blk_drew ?_ | refine blk_alloc ?_ _)); exact BK215.out⟩, ⟨by repeat (first | (with_reducible first | exact HB.out | apply below_alloc | apply pw_below_drewN | apply below_drew1 | refine below_set ?_ GE215.out) | exact HB.out)⟩⟩
          case rest =>
            clear HC16
            try clear c1
            try clear p2
            try clear c5
            try clear c5b0
            try clear c5b1
            try clear c6
            try clear c6b0
            try clear c6b1
            try clear c7
            try clear c7b0
            try clear c7b1
            try clear c8
            try clear c12
            try clear c12b0
            try clear c12b1
            try clear c17
            try clear c17b0
            try clear c17b1
            try clear hcz13_0
            try clear hcz13_1
            try clear hcz13_2
            try clear hcz13_3
            try clear hcz13_4
            try clear hcz13_5
            try clear hcz4_0
            try clear hcz4_1
            try clear hcz4_2
            try clear hcz4_3
            try clear hcz4_4
            try clear hcz4_5
            try clear hcz9_0
            try clear hcz9_1
            try clear hcz9_2
            try clear hcz9_3
            try clear hcz9_4
            try clear hcz9_5
            try clear hfz13_0
            try clear hfz13_1
            try clear hfz13_2
            try clear hfz13_3
            try clear hfz13_4
            try clear hfz13_5
            try clear hfz4_0
            try clear hfz4_1
            try clear hfz4_2
            try clear hfz4_3
            try clear hfz4_4
            try clear hfz4_5
            try clear hfz9_0
            try clear hfz9_1
            try clear hfz9_2
            try clear hfz9_3
            try clear hfz9_4
            try clear hfz9_5
            try clear p2
            obtain ⟨kq, x20_15, rfl, HA, HJ15, BK215, HB⟩ := hcut
            cases kq with
            | zero => exact absurd HA.out (by simp [turnstileref09_Reads.j1])
            | succ kj15 =>
              have H := HA.out
              clear HA
              simp only [turnstileref09_Reads.j1] at H
              by_cases c18 : x20_15 = true
              · subst c18
                have H1 : (if a0_4 < 0 then (some (([a0_3] : List Int))) else (some (([a0_3, a0_4] : List Int)))) = some r := by rw [if_pos rfl] at H; exact H
                clear H
                have H := H1
                clear H1
                by_cases c19 : a0_4 < 0
                · rw [if_pos c19] at H
                  have c19b0 : decide (a0_4 < 0) = true := decide_eq_true c19
                  clear c19
                  obtain ⟨y222, hy222⟩ : ∃ y_ : List Int, y_ = (([a0_3] : List Int)) := ⟨_, rfl⟩
                  replace H : (some y222) = some r := by first | (rw [hy222]; with_reducible exact H) | (have H2_ := (Option.bind_some _ _).symm.trans H; rw [hy222]; with_reducible exact H2_) | (have H2_ := (Option.bind_some _ _).symm.trans H; with_reducible exact H2_) | with_reducible exact H | (rw [hy222]; exact H) | exact H
                  have Ny222 := Aside0.mk hy222
                  clear hy222
                  obtain rfl := Option.some.inj H
                  have hcz20_0 : wc.cell? ⟨gb215, 0, none⟩ = some (.int .u8 a0_0) := (blk_cell BK215.out 0).trans rfl
                  have hcz20_1 : wc.cell? ⟨gb215, 1, none⟩ = some (.int .u8 a0_1) := (blk_cell BK215.out 1).trans rfl
                  have hcz20_2 : wc.cell? ⟨gb215, 2, none⟩ = some (.int .i64 a0_2) := (blk_cell BK215.out 2).trans rfl
                  have hcz20_3 : wc.cell? ⟨gb215, 3, none⟩ = some (.int .i64 a0_3) := (blk_cell BK215.out 3).trans rfl
                  have hcz20_4 : wc.cell? ⟨gb215, 4, none⟩ = some (.int .i64 a0_4) := (blk_cell BK215.out 4).trans rfl
                  have hcz20_5 : wc.cell? ⟨gb215, 5, none⟩ = some (.int .i64 a0_5) := (blk_cell BK215.out 5).trans rfl
                  have hfz20_0 := blk_frozen BK215.out 0
                  have hfz20_1 := blk_frozen BK215.out 1
                  have hfz20_2 := blk_frozen BK215.out 2
                  have hfz20_3 := blk_frozen BK215.out 3
                  have hfz20_4 := blk_frozen BK215.out 4
                  have hfz20_5 := blk_frozen BK215.out 5
                  go_wp2_with (first | ((with_reducible refine gate_dst (N := 28) rfl ?_); refine Kd.R_lit (Kd.int .i64) _ 3 ?hg (N := 28) ?hd (xs := ([a0_3] : List Int)) (inner := [.int .i64 a0_3]) (ok := fun _ => True) (okp := fun _ => True) ?hr ?hp (fun _ hk => hk) trivial (Below.refl _ _) (Nat.le_refl _) (by simp) ?_; (case hd => rfl); (case hg => rfl); (case hr => first | (go_simp; done) | (go_simp; rfl)); (case hp => exact (Reps.one (show Kd.M (Kd.int .i64) _ _ _ a0_3 [.int .i64 a0_3] from rfl) (Reps.none _ _))); intro v223 w21 ho22 hb hg_ hnew_; clear hg_ hnew_; (first | rw [← Ny222.out] at ho22 | (simp only [Int.reduceToNat] at ho22; rw [← Ny222.out] at ho22)); have n0_ := Aside0.mk (Kd.R_lower ho22 (below_size (by repeat (first | (with_reducible first | exact HB.out | apply below_alloc | apply pw_below_drewN | apply below_drew1 | refine below_set ?_ GE215.out) | exact HB.out)))); have n1_ := Aside0.mk (blk_below (g := gb215) (o := .cells #[.int .u8 a0_0, .int .u8 a0_1, .int .i64 a0_2, .int .i64 a0_3, .int .i64 a0_4, .int .i64 a0_5] 46 (0, 0)) (by (with_reducible repeat (first | refine blk_drewN ?_ _ | refine blk_drew ?_ | refine blk_alloc ?_ _)); exact BK215.out) hb); have n2_ := Aside0.mk (below_step (by repeat (first | (with_reducible first | exact HB.out | apply below_alloc | apply pw_below_drewN | apply below_drew1 | refine below_set ?_ GE215.out) | exact HB.out)) hb); clear BK215; clear HB; have HO224 := n0_; have BK215 := n1_; have HB := n2_; clear n0_ n1_ n2_; clear hb ho22))
                  go_ret
                  exact ⟨_, by first | rfl | (simp [errW_none, errW_some] <;> rfl) | (simp [*, errW_none, errW_some] <;> rfl), by (with_reducible repeat (first | apply Kd.R_alloc | apply Kd.R_drewN | apply Kd.R_drew)); exact HO224.out, by repeat (first | (with_reducible first | exact HB.out | apply below_alloc | apply pw_below_drewN | apply below_drew1 | refine below_set ?_ GE215.out) | exact HB.out)⟩
                · rw [if_neg c19] at H
                  have c19b0 : decide (a0_4 < 0) = false := decide_eq_false c19
                  clear c19
                  obtain ⟨y225, hy225⟩ : ∃ y_ : List Int, y_ = (([a0_3, a0_4] : List Int)) := ⟨_, rfl⟩
                  replace H : (some y225) = some r := by first | (rw [hy225]; with_reducible exact H) | (have H2_ := (Option.bind_some _ _).symm.trans H; rw [hy225]; with_reducible exact H2_) | (have H2_ := (Option.bind_some _ _).symm.trans H; with_reducible exact H2_) | with_reducible exact H | (rw [hy225]; exact H) | exact H
                  have Ny225 := Aside0.mk hy225
                  clear hy225
                  obtain rfl := Option.some.inj H
                  have hcz23_0 : wc.cell? ⟨gb215, 0, none⟩ = some (.int .u8 a0_0) := (blk_cell BK215.out 0).trans rfl
                  have hcz23_1 : wc.cell? ⟨gb215, 1, none⟩ = some (.int .u8 a0_1) := (blk_cell BK215.out 1).trans rfl
                  have hcz23_2 : wc.cell? ⟨gb215, 2, none⟩ = some (.int .i64 a0_2) := (blk_cell BK215.out 2).trans rfl
                  have hcz23_3 : wc.cell? ⟨gb215, 3, none⟩ = some (.int .i64 a0_3) := (blk_cell BK215.out 3).trans rfl
                  have hcz23_4 : wc.cell? ⟨gb215, 4, none⟩ = some (.int .i64 a0_4) := (blk_cell BK215.out 4).trans rfl
                  have hcz23_5 : wc.cell? ⟨gb215, 5, none⟩ = some (.int .i64 a0_5) := (blk_cell BK215.out 5).trans rfl
                  have hfz23_0 := blk_frozen BK215.out 0
                  have hfz23_1 := blk_frozen BK215.out 1
                  have hfz23_2 := blk_frozen BK215.out 2
                  have hfz23_3 := blk_frozen BK215.out 3
                  have hfz23_4 := blk_frozen BK215.out 4
                  have hfz23_5 := blk_frozen BK215.out 5
                  go_wp2_with (first | ((with_reducible refine gate_dst (N := 33) rfl ?_); refine Kd.R_lit (Kd.int .i64) _ 3 ?hg (N := 33) ?hd (xs := ([a0_3, a0_4] : List Int)) (inner := [.int .i64 a0_3, .int .i64 a0_4]) (ok := fun _ => True) (okp := fun _ => True) ?hr ?hp (fun _ hk => hk) trivial (Below.refl _ _) (Nat.le_refl _) (by simp) ?_; (case hd => rfl); (case hg => rfl); (case hr => first | (go_simp; done) | (go_simp; rfl)); (case hp => exact (Reps.one (show Kd.M (Kd.int .i64) _ _ _ a0_3 [.int .i64 a0_3] from rfl) (Reps.one (show Kd.M (Kd.int .i64) _ _ _ a0_4 [.int .i64 a0_4] from rfl) (Reps.none _ _)))); intro v226 w24 ho25 hb hg_ hnew_; clear hg_ hnew_; (first | rw [← Ny225.out] at ho25 | (simp only [Int.reduceToNat] at ho25; rw [← Ny225.out] at ho25)); have n0_ := Aside0.mk (Kd.R_lower ho25 (below_size (by repeat (first | (with_reducible first | exact HB.out | apply below_alloc | apply pw_below_drewN | apply below_drew1 | refine below_set ?_ GE215.out) | exact HB.out)))); have n1_ := Aside0.mk (blk_below (g := gb215) (o := .cells #[.int .u8 a0_0, .int .u8 a0_1, .int .i64 a0_2, .int .i64 a0_3, .int .i64 a0_4, .int .i64 a0_5] 46 (0, 0)) (by (with_reducible repeat (first | refine blk_drewN ?_ _ | refine blk_drew ?_ | refine blk_alloc ?_ _)); exact BK215.out) hb); have n2_ := Aside0.mk (below_step (by repeat (first | (with_reducible first | exact HB.out | apply below_alloc | apply pw_below_drewN | apply below_drew1 | refine below_set ?_ GE215.out) | exact HB.out)) hb); clear BK215; clear HB; have HO227 := n0_; have BK215 := n1_; have HB := n2_; clear n0_ n1_ n2_; clear hb ho25))
                  go_ret
                  exact ⟨_, by first | rfl | (simp [errW_none, errW_some] <;> rfl) | (simp [*, errW_none, errW_some] <;> rfl), by (with_reducible repeat (first | apply Kd.R_alloc | apply Kd.R_drewN | apply Kd.R_drew)); exact HO227.out, by repeat (first | (with_reducible first | exact HB.out | apply below_alloc | apply pw_below_drewN | apply below_drew1 | refine below_set ?_ GE215.out) | exact HB.out)⟩
              · replace c18 := Bool.eq_false_iff.mpr c18
                subst c18
                have H1 : (if a0_0 = 9 then (turnstileref09_Reads.j2 kj15 (a0_0 == 9) a0_0 a0_1 a0_2 a0_3 a0_4 a0_5) else (turnstileref09_Reads.j2 kj15 (a0_0 == 11) a0_0 a0_1 a0_2 a0_3 a0_4 a0_5)) = some r := by rw [if_neg (show ¬ (false = true) by decide)] at H; exact H
                clear H
                have H := H1
                clear H1
                have HC26 := Aside0.mk H
                clear H
                go_upto_if 34 with (fail)
                go_cut [34] (fun v34 wc => ∃ (kq : Nat) (x34_25 : Bool), v34 = .bool x34_25 ∧ Aside0 (turnstileref09_Reads.j2 kq x34_25 a0_0 a0_1 a0_2 a0_3 a0_4 a0_5 = some r) ∧ Aside0 (kq ≤ kj15) ∧ Aside0 (wc.heap[gb215]? = some (.cells #[.int .u8 a0_0, .int .u8 a0_1, .int .i64 a0_2, .int .i64 a0_3, .int .i64 a0_4, .int .i64 a0_5] 46 (0, 0))) ∧ Aside0 (Below w.heap.size w wc))
                case first =>
                  have H := HC26.out
                  clear HC26
                  by_cases c27 : a0_0 = 9
                  · rw [if_pos c27] at H
                    have c27b0 : (a0_0 == 9) = true := beq_iff_eq.mpr c27
                    have c27b1 : (a0_0 != 9) = false := bne_eq_false_iff_eq.mpr c27
                    clear c27
                    (first | rw [c27b0] | (simp only [i64_w, i32_w]; rw [c27b0]) | skip)
                    have H' := Aside0.mk H
                    clear H
                    go_wp2
                    go_meet
                    case rel => exact ⟨_, ((a0_0 == 9)), (by first | rfl | (simp; done) | (simp [*]; done)), H', ⟨by have := HJ1.out; have := HJ15.out; first | omega | exact Nat.le_refl _⟩, ⟨by (with_reducible repeat (first | refine blk_drewN ?_ _ | refine blk_drew ?_ | refine blk_alloc ?_ _)); exact BK215.out⟩, ⟨by repeat (first | (with_reducible first | exact HB.out | apply below_alloc | apply pw_below_drewN | apply below_drew1 | refine below_set ?_ GE215.out) | exact HB.out)⟩⟩
                  · rw [if_neg c27] at H
                    have c27b0 : (a0_0 == 9) = false := beq_eq_false_iff_ne.mpr c27
                    have c27b1 : (a0_0 != 9) = true := bne_iff_ne.mpr c27
                    (first | rw [c27b0] | (simp only [i64_w, i32_w]; rw [c27b0]) | skip)
                    have H' := Aside0.mk H
                    clear H
                    go_wp2
                    go_meet
                    case rel => exact ⟨_, ((a0_0 == 11)), (by first | rfl | (simp; done) | (simp [*]; done)), H', ⟨by have := HJ1.out; have := HJ15.out; first | omega | exact Nat.le_refl _⟩, ⟨by (with_reducible repeat (first | refine blk_drewN ?_ _ | refine blk_drew ?_ | refine blk_alloc ?_ _)); exact BK215.out⟩, ⟨by repeat (first | (with_reducible first | exact HB.out | apply below_alloc | apply pw_below_drewN | apply below_drew1 | refine below_set ?_ GE215.out) | exact HB.out)⟩⟩
                case rest =>
                  clear HC26
                  try clear c1
                  try clear c2
                  try clear p2
                  try clear c5
                  try clear c5b0
                  try clear c5b1
                  try clear c6
                  try clear c6b0
                  try clear c6b1
                  try clear c7
                  try clear c7b0
                  try clear c7b1
                  try clear c8
                  try clear c12
                  try clear c12b0
                  try clear c12b1
                  try clear c17
                  try clear c17b0
                  try clear c17b1
                  try clear c18
                  try clear c19
                  try clear c19b0
                  try clear c27
                  try clear c27b0
                  try clear c27b1
                  try clear hcz13_0
                  try clear hcz13_1
                  try clear hcz13_2
                  try clear hcz13_3
                  try clear hcz13_4
                  try clear hcz13_5
                  try clear hcz20_0
                  try clear hcz20_1
                  try clear hcz20_2
                  try clear hcz20_3
                  try clear hcz20_4
                  try clear hcz20_5
                  try clear hcz23_0
                  try clear hcz23_1
                  try clear hcz23_2
                  try clear hcz23_3
                  try clear hcz23_4
                  try clear hcz23_5
                  try clear hcz4_0
                  try clear hcz4_1
                  try clear hcz4_2
                  try clear hcz4_3
                  try clear hcz4_4
                  try clear hcz4_5
                  try clear hcz9_0
                  try clear hcz9_1
                  try clear hcz9_2
                  try clear hcz9_3
                  try clear hcz9_4
                  try clear hcz9_5
                  try clear hfz13_0
                  try clear hfz13_1
                  try clear hfz13_2
                  try clear hfz13_3
                  try clear hfz13_4
                  try clear hfz13_5
                  try clear hfz20_0
                  try clear hfz20_1
                  try clear hfz20_2
                  try clear hfz20_3
                  try clear hfz20_4
                  try clear hfz20_5
                  try clear hfz23_0
                  try clear hfz23_1
                  try clear hfz23_2
                  try clear hfz23_3
                  try clear hfz23_4
                  try clear hfz23_5
                  try clear hfz4_0
                  try clear hfz4_1
                  try clear hfz4_2
                  try clear hfz4_3
                  try clear hfz4_4
                  try clear hfz4_5
                  try clear hfz9_0
                  try clear hfz9_1
                  try clear hfz9_2
                  try clear hfz9_3
                  try clear hfz9_4
                  try clear hfz9_5
                  try clear p2
                  obtain ⟨kq, x34_25, rfl, HA, HJ25, BK215, HB⟩ := hcut
                  cases kq with
                  | zero => exact absurd HA.out (by simp [turnstileref09_Reads.j2])
                  | succ kj25 =>
                    have H := HA.out
                    clear HA
                    simp only [turnstileref09_Reads.j2] at H
                    by_cases c28 : x34_25 = true
                    · subst c28
                      have H1 : (if a0_4 < 0 then (some (([a0_2, a0_3] : List Int))) else (some (([a0_2, a0_3, a0_4] : List Int)))) = some r := by rw [if_pos rfl] at H; exact H
                      clear H
                      have H := H1
                      clear H1
                      by_cases c29 : a0_4 < 0
                      · rw [if_pos c29] at H
                        have c29b0 : decide (a0_4 < 0) = true := decide_eq_true c29
                        clear c29
                        obtain ⟨y228, hy228⟩ : ∃ y_ : List Int, y_ = (([a0_2, a0_3] : List Int)) := ⟨_, rfl⟩
                        replace H : (some y228) = some r := by first | (rw [hy228]; with_reducible exact H) | (have H2_ := (Option.bind_some _ _).symm.trans H; rw [hy228]; with_reducible exact H2_) | (have H2_ := (Option.bind_some _ _).symm.trans H; with_reducible exact H2_) | with_reducible exact H | (rw [hy228]; exact H) | exact H
                        have Ny228 := Aside0.mk hy228
                        clear hy228
                        obtain rfl := Option.some.inj H
                        have hcz30_0 : wc.cell? ⟨gb215, 0, none⟩ = some (.int .u8 a0_0) := (blk_cell BK215.out 0).trans rfl
                        have hcz30_1 : wc.cell? ⟨gb215, 1, none⟩ = some (.int .u8 a0_1) := (blk_cell BK215.out 1).trans rfl
                        have hcz30_2 : wc.cell? ⟨gb215, 2, none⟩ = some (.int .i64 a0_2) := (blk_cell BK215.out 2).trans rfl
                        have hcz30_3 : wc.cell? ⟨gb215, 3, none⟩ = some (.int .i64 a0_3) := (blk_cell BK215.out 3).trans rfl
                        have hcz30_4 : wc.cell? ⟨gb215, 4, none⟩ = some (.int .i64 a0_4) := (blk_cell BK215.out 4).trans rfl
                        have hcz30_5 : wc.cell? ⟨gb215, 5, none⟩ = some (.int .i64 a0_5) := (blk_cell BK215.out 5).trans rfl
                        have hfz30_0 := blk_frozen BK215.out 0
                        have hfz30_1 := blk_frozen BK215.out 1
                        have hfz30_2 := blk_frozen BK215.out 2
                        have hfz30_3 := blk_frozen BK215.out 3
                        have hfz30_4 := blk_frozen BK215.out 4
                        have hfz30_5 := blk_frozen BK215.out 5
                        go_wp2_with (first | ((with_reducible refine gate_dst (N := 44) rfl ?_); refine Kd.R_lit (Kd.int .i64) _ 3 ?hg (N := 44) ?hd (xs := ([a0_2, a0_3] : List Int)) (inner := [.int .i64 a0_2, .int .i64 a0_3]) (ok := fun _ => True) (okp := fun _ => True) ?hr ?hp (fun _ hk => hk) trivial (Below.refl _ _) (Nat.le_refl _) (by simp) ?_; (case hd => rfl); (case hg => rfl); (case hr => first | (go_simp; done) | (go_simp; rfl)); (case hp => exact (Reps.one (show Kd.M (Kd.int .i64) _ _ _ a0_2 [.int .i64 a0_2] from rfl) (Reps.one (show Kd.M (Kd.int .i64) _ _ _ a0_3 [.int .i64 a0_3] from rfl) (Reps.none _ _)))); intro v229 w31 ho32 hb hg_ hnew_; clear hg_ hnew_; (first | rw [← Ny228.out] at ho32 | (simp only [Int.reduceToNat] at ho32; rw [← Ny228.out] at ho32)); have n0_ := Aside0.mk (Kd.R_lower ho32 (below_size (by repeat (first | (with_reducible first | exact HB.out | apply below_alloc | apply pw_below_drewN | apply below_drew1 | refine below_set ?_ GE215.out) | exact HB.out)))); have n1_ := Aside0.mk (blk_below (g := gb215) (o := .cells #[.int .u8 a0_0, .int .u8 a0_1, .int .i64 a0_2, .int .i64 a0_3, .int .i64 a0_4, .int .i64 a0_5] 46 (0, 0)) (by (with_reducible repeat (first | refine blk_drewN ?_ _ | refine blk_drew ?_ | refine blk_alloc ?_ _)); exact BK215.out) hb); have n2_ := Aside0.mk (below_step (by repeat (first | (with_reducible first | exact HB.out | apply below_alloc | apply pw_below_drewN | apply below_drew1 | refine below_set ?_ GE215.out) | exact HB.out)) hb); clear BK215; clear HB; have HO230 := n0_; have BK215 := n1_; have HB := n2_; clear n0_ n1_ n2_; clear hb ho32))
                        go_ret
                        exact ⟨_, by first | rfl | (simp [errW_none, errW_some] <;> rfl) | (simp [*, errW_none, errW_some] <;> rfl), by (with_reducible repeat (first | apply Kd.R_alloc | apply Kd.R_drewN | apply Kd.R_drew)); exact HO230.out, by repeat (first | (with_reducible first | exact HB.out | apply below_alloc | apply pw_below_drewN | apply below_drew1 | refine below_set ?_ GE215.out) | exact HB.out)⟩
                      · rw [if_neg c29] at H
                        have c29b0 : decide (a0_4 < 0) = false := decide_eq_false c29
                        clear c29
                        obtain ⟨y231, hy231⟩ : ∃ y_ : List Int, y_ = (([a0_2, a0_3, a0_4] : List Int)) := ⟨_, rfl⟩
                        replace H : (some y231) = some r := by first | (rw [hy231]; with_reducible exact H) | (have H2_ := (Option.bind_some _ _).symm.trans H; rw [hy231]; with_reducible exact H2_) | (have H2_ := (Option.bind_some _ _).symm.trans H; with_reducible exact H2_) | with_reducible exact H | (rw [hy231]; exact H) | exact H
                        have Ny231 := Aside0.mk hy231
                        clear hy231
                        obtain rfl := Option.some.inj H
                        have hcz33_0 : wc.cell? ⟨gb215, 0, none⟩ = some (.int .u8 a0_0) := (blk_cell BK215.out 0).trans rfl
                        have hcz33_1 : wc.cell? ⟨gb215, 1, none⟩ = some (.int .u8 a0_1) := (blk_cell BK215.out 1).trans rfl
                        have hcz33_2 : wc.cell? ⟨gb215, 2, none⟩ = some (.int .i64 a0_2) := (blk_cell BK215.out 2).trans rfl
                        have hcz33_3 : wc.cell? ⟨gb215, 3, none⟩ = some (.int .i64 a0_3) := (blk_cell BK215.out 3).trans rfl
                        have hcz33_4 : wc.cell? ⟨gb215, 4, none⟩ = some (.int .i64 a0_4) := (blk_cell BK215.out 4).trans rfl
                        have hcz33_5 : wc.cell? ⟨gb215, 5, none⟩ = some (.int .i64 a0_5) := (blk_cell BK215.out 5).trans rfl
                        have hfz33_0 := blk_frozen BK215.out 0
                        have hfz33_1 := blk_frozen BK215.out 1
                        have hfz33_2 := blk_frozen BK215.out 2
                        have hfz33_3 := blk_frozen BK215.out 3
                        have hfz33_4 := blk_frozen BK215.out 4
                        have hfz33_5 := blk_frozen BK215.out 5
                        go_wp2_with (first | ((with_reducible refine gate_dst (N := 51) rfl ?_); refine Kd.R_lit (Kd.int .i64) _ 3 ?hg (N := 51) ?hd (xs := ([a0_2, a0_3, a0_4] : List Int)) (inner := [.int .i64 a0_2, .int .i64 a0_3, .int .i64 a0_4]) (ok := fun _ => True) (okp := fun _ => True) ?hr ?hp (fun _ hk => hk) trivial (Below.refl _ _) (Nat.le_refl _) (by simp) ?_; (case hd => rfl); (case hg => rfl); (case hr => first | (go_simp; done) | (go_simp; rfl)); (case hp => exact (Reps.one (show Kd.M (Kd.int .i64) _ _ _ a0_2 [.int .i64 a0_2] from rfl) (Reps.one (show Kd.M (Kd.int .i64) _ _ _ a0_3 [.int .i64 a0_3] from rfl) (Reps.one (show Kd.M (Kd.int .i64) _ _ _ a0_4 [.int .i64 a0_4] from rfl) (Reps.none _ _))))); intro v232 w34 ho35 hb hg_ hnew_; clear hg_ hnew_; (first | rw [← Ny231.out] at ho35 | (simp only [Int.reduceToNat] at ho35; rw [← Ny231.out] at ho35)); have n0_ := Aside0.mk (Kd.R_lower ho35 (below_size (by repeat (first | (with_reducible first | exact HB.out | apply below_alloc | apply pw_below_drewN | apply below_drew1 | refine below_set ?_ GE215.out) | exact HB.out)))); have n1_ := Aside0.mk (blk_below (g := gb215) (o := .cells #[.int .u8 a0_0, .int .u8 a0_1, .int .i64 a0_2, .int .i64 a0_3, .int .i64 a0_4, .int .i64 a0_5] 46 (0, 0)) (by (with_reducible repeat (first | refine blk_drewN ?_ _ | refine blk_drew ?_ | refine blk_alloc ?_ _)); exact BK215.out) hb); have n2_ := Aside0.mk (below_step (by repeat (first | (with_reducible first | exact HB.out | apply below_alloc | apply pw_below_drewN | apply below_drew1 | refine below_set ?_ GE215.out) | exact HB.out)) hb); clear BK215; clear HB; have HO233 := n0_; have BK215 := n1_; have HB := n2_; clear n0_ n1_ n2_; clear hb ho35))
                        go_ret
                        exact ⟨_, by first | rfl | (simp [errW_none, errW_some] <;> rfl) | (simp [*, errW_none, errW_some] <;> rfl), by (with_reducible repeat (first | apply Kd.R_alloc | apply Kd.R_drewN | apply Kd.R_drew)); exact HO233.out, by repeat (first | (with_reducible first | exact HB.out | apply below_alloc | apply pw_below_drewN | apply below_drew1 | refine below_set ?_ GE215.out) | exact HB.out)⟩
                    · replace c28 := Bool.eq_false_iff.mpr c28
                      subst c28
                      have H1 : (some ([] : List Int)) = some r := by rw [if_neg (show ¬ (false = true) by decide)] at H; exact H
                      clear H
                      have H := H1
                      clear H1
                      obtain rfl := Option.some.inj H
                      go_wp2
                      go_ret
                      exact ⟨_, by first | rfl | (simp [errW_none, errW_some] <;> rfl) | (simp [*, errW_none, errW_some] <;> rfl), by first | exact Kd.R_nil _ _ _ _ _ | exact Kd.N_nil _ _ _ _ _ | exact Kd.V_nil _ _ _ _ _ | exact Kd.Q_nil _ _ _ _ _ | exact Kd.S_nil _ _ _ _ _, by repeat (first | (with_reducible first | exact HB.out | apply below_alloc | apply pw_below_drewN | apply below_drew1 | refine below_set ?_ GE215.out) | exact HB.out)⟩
end Go.Proofs.Ytjmeignhhheckaa.Q
namespace Go.Proofs.Ytjmeignhhheckaa.Q
open Go.RowKit Go.Proofs.YtjmeignhhheckaaW.PrintWords Go.Proofs.YtjmeignhhheckaaW.PrintLast Go.Proofs.YtjmeignhhheckaaW.PrintMore
attribute [local go_sem] max2_int min2_int max_two min_two max_three min_three max_four min_four   -- for this text's walks alone
set_option linter.unusedVariables false
set_option linter.unusedSimpArgs false
def turnstileref09_Writes.f (a0_0 : Int) (a0_1 : Int) (a0_2 : Int) (a0_3 : Int) (a0_4 : Int) (a0_5 : Int) : Option (Int) := if a0_0 = 1 then (some a0_2) else (if a0_0 = 2 then (some a0_2) else (if a0_0 = 3 then (some a0_2) else (if a0_0 = 6 then (some a0_2) else (if a0_0 = 7 then (some a0_2) else (if a0_0 = 8 then (some a0_2) else (if a0_0 = 10 then (some a0_2) else (some (-1))))))))
set_option maxHeartbeats 8000000 in
set_option maxRecDepth 100000 in
theorem turnstileref09_Writes.calls (a0_0 : Int) (a0_1 : Int) (a0_2 : Int) (a0_3 : Int) (a0_4 : Int) (a0_5 : Int) (r : Int) (w : World) (h : turnstileref09_Writes.f a0_0 a0_1 a0_2 a0_3 a0_4 a0_5 = some r) :
    Calls Try.prog 19 #[.agg #[.int .u8 a0_0, .int .u8 a0_1, .int .i64 a0_2, .int .i64 a0_3, .int .i64 a0_4, .int .i64 a0_5]] w fun e w' => e = .returned (.int .i64 r) ∧ Below w.heap.size w w' := by
  have hu46 := Try.underlying46
  have HB := Aside0.mk (Below.refl w.heap.size w)
  have H : (if a0_0 = 1 then (some a0_2) else (if a0_0 = 2 then (some a0_2) else (if a0_0 = 3 then (some a0_2) else (if a0_0 = 6 then (some a0_2) else (if a0_0 = 7 then (some a0_2) else (if a0_0 = 8 then (some a0_2) else (if a0_0 = 10 then (some a0_2) else (some (-1))))))))) = some r := h
  clear h
  by_cases c2 : a0_0 = 1
  · rw [if_pos c2] at H
    have c2b0 : (a0_0 == 1) = true := beq_iff_eq.mpr c2
    have c2b1 : (a0_0 != 1) = false := bne_eq_false_iff_eq.mpr c2
    clear c2
    obtain rfl := Option.some.inj H
    go_enter Try.func19, Try.ntmps19
    go_wp2_with (first | ((with_reducible refine gate_dst (N := 1) rfl ?_); refine box_event ?hg (N := 1) ?hd (cs := #[.int .u8 a0_0, .int .u8 a0_1, .int .i64 a0_2, .int .i64 a0_3, .int .i64 a0_4, .int .i64 a0_5]) (t := 46) ?hr ?_; (case hd => rfl); (case hg => rfl); (case hr => first | (go_simp; done) | (go_simp; rfl)); intro gb234 hg w3 hbox hb; have n0_ := Aside0.mk (below_step (by repeat (first | (with_reducible first | exact HB.out | apply below_alloc | apply pw_below_drewN | apply below_drew1) | exact HB.out)) hb); have n1_ := Aside0.mk (hbox); have n2_ := Aside0.mk ((by rw [hg]; exact (below_size (by repeat (first | (with_reducible first | exact HB.out | apply below_alloc | apply pw_below_drewN | apply below_drew1) | exact HB.out))) : w.heap.size ≤ gb234)); have n3_ := Aside0.mk ((by rw [hg]; exact (below_size (by repeat (first | (with_reducible first | exact HB.out | apply below_alloc | apply pw_below_drewN | apply below_drew1) | exact HB.out))) : w.heap.size ≤ gb234)); clear HB; have HB := n0_; have BK234 := n1_; have GW234 := n2_; have GE234 := n3_; clear n0_ n1_ n2_ n3_; clear hb hbox hg; have hcz4_0 : w3.cell? ⟨gb234, 0, none⟩ = some (.int .u8 a0_0) := (blk_cell BK234.out 0).trans rfl; have hcz4_1 : w3.cell? ⟨gb234, 1, none⟩ = some (.int .u8 a0_1) := (blk_cell BK234.out 1).trans rfl; have hcz4_2 : w3.cell? ⟨gb234, 2, none⟩ = some (.int .i64 a0_2) := (blk_cell BK234.out 2).trans rfl; have hcz4_3 : w3.cell? ⟨gb234, 3, none⟩ = some (.int .i64 a0_3) := (blk_cell BK234.out 3).trans rfl; have hcz4_4 : w3.cell? ⟨gb234, 4, none⟩ = some (.int .i64 a0_4) := (blk_cell BK234.out 4).trans rfl; have hcz4_5 : w3.cell? ⟨gb234, 5, none⟩ = some (.int .i64 a0_5) := (blk_cell BK234.out 5).trans rfl; have hfz4_0 := blk_frozen BK234.out 0; have hfz4_1 := blk_frozen BK234.out 1; have hfz4_2 := blk_frozen BK234.out 2; have hfz4_3 := blk_frozen BK234.out 3; have hfz4_4 := blk_frozen BK234.out 4; have hfz4_5 := blk_frozen BK234.out 5))
    go_ret
    exact ⟨by first | rfl | (simp [errW_none, errW_some] <;> rfl) | (simp [*, errW_none, errW_some] <;> rfl), by repeat (first | (with_reducible first | exact HB.out | apply below_alloc | apply pw_below_drewN | apply below_drew1 | refine below_set ?_ GE234.out) | exact HB.out)⟩
  · rw [if_neg c2] at H
    have c2b0 : (a0_0 == 1) = false := beq_eq_false_iff_ne.mpr c2
    have c2b1 : (a0_0 != 1) = true := bne_iff_ne.mpr c2
    by_cases c5 : a0_0 = 2
    · rw [if_pos c5] at H
      have c5b0 : (a0_0 == 2) = true := beq_iff_eq.mpr c5
      have c5b1 : (a0_0 != 2) = false := bne_eq_false_iff_eq.mpr c5
      clear c5
      obtain rfl := Option.some.inj H
      go_enter Try.func19, Try.ntmps19
      go_wp2_with (first | ((with_reducible refine gate_dst (N := 1) rfl ?_); refine box_event ?hg (N := 1) ?hd (cs := #[.int .u8 a0_0, .int .u8 a0_1, .int .i64 a0_2, .int .i64 a0_3, .int .i64 a0_4, .int .i64 a0_5]) (t := 46) ?hr ?_; (case hd => rfl); (case hg => rfl); (case hr => first | (go_simp; done) | (go_simp; rfl)); intro gb234 hg w6 hbox hb; have n0_ := Aside0.mk (below_step (by repeat (first | (with_reducible first | exact HB.out | apply below_alloc | apply pw_below_drewN | apply below_drew1) | exact HB.out)) hb); have n1_ := Aside0.mk (hbox); have n2_ := Aside0.mk ((by rw [hg]; exact (below_size (by repeat (first | (with_reducible first | exact HB.out | apply below_alloc | apply pw_below_drewN | apply below_drew1) | exact HB.out))) : w.heap.size ≤ gb234)); have n3_ := Aside0.mk ((by rw [hg]; exact (below_size (by repeat (first | (with_reducible first | exact HB.out | apply below_alloc | apply pw_below_drewN | apply below_drew1) | exact HB.out))) : w.heap.size ≤ gb234)); clear HB; have HB := n0_; have BK234 := n1_; have GW234 := n2_; have GE234 := n3_; clear n0_ n1_ n2_ n3_; clear hb hbox hg; have hcz7_0 : w6.cell? ⟨gb234, 0, none⟩ = some (.int .u8 a0_0) := (blk_cell BK234.out 0).trans rfl; have hcz7_1 : w6.cell? ⟨gb234, 1, none⟩ = some (.int .u8 a0_1) := (blk_cell BK234.out 1).trans rfl; have hcz7_2 : w6.cell? ⟨gb234, 2, none⟩ = some (.int .i64 a0_2) := (blk_cell BK234.out 2).trans rfl; have hcz7_3 : w6.cell? ⟨gb234, 3, none⟩ = some (.int .i64 a0_3) := (blk_cell BK234.out 3).trans rfl; have hcz7_4 : w6.cell? ⟨gb234, 4, none⟩ = some (.int .i64 a0_4) := (blk_cell BK234.out 4).trans rfl; have hcz7_5 : w6.cell? ⟨gb234, 5, none⟩ = some (.int .i64 a0_5) := (blk_cell BK234.out 5).trans rfl; have hfz7_0 := blk_frozen BK234.out 0; have hfz7_1 := blk_frozen BK234.out 1; have hfz7_2 := blk_frozen BK234.out 2; have hfz7_3 := blk_frozen BK234.out 3; have hfz7_4 := blk_frozen BK234.out 4; have hfz7_5 := blk_frozen BK234.out 5))
      go_ret
      exact ⟨by first | rfl | (simp [errW_none, errW_some] <;> rfl) | (simp [*, errW_none, errW_some] <;> rfl), by repeat (first | (with_reducible first | exact HB.out | apply below_alloc | apply pw_below_drewN | apply below_drew1 | refine below_set ?_ GE234.out) | exact HB.out)⟩
    · rw [if_neg c5] at H
      have c5b0 : (a0_0 == 2) = false := beq_eq_false_iff_ne.mpr c5
      have c5b1 : (a0_0 != 2) = true := bne_iff_ne.mpr c5
      by_cases c8 : a0_0 = 3
      · rw [if_pos c8] at H
        have c8b0 : (a0_0 == 3) = true := beq_iff_eq.mpr c8
        have c8b1 : (a0_0 != 3) = false := bne_eq_false_iff_eq.mpr c8
        clear c8
        obtain rfl := Option.some.inj H
        go_enter Try.func19, Try.ntmps19
        go_wp2_with (first | ((with_reducible refine gate_dst (N := 1) rfl ?_); refine box_event ?hg (N := 1) ?hd (cs := #[.int .u8 a0_0, .int .u8 a0_1, .int .i64 a0_2, .int .i64 a0_3, .int .i64 a0_4, .int .i64 a0_5]) (t := 46) ?hr ?_; (case hd => rfl); (case hg => rfl); (case hr => first | (go_simp; done) | (go_simp; rfl)); intro gb234 hg w9 hbox hb; have n0_ := Aside0.mk (below_step (by repeat (first | (with_reducible first | exact HB.out | apply below_alloc | apply pw_below_drewN | apply below_drew1) | exact HB.out)) hb); have n1_ := Aside0.mk (hbox); have n2_ := Aside0.mk ((by rw [hg]; exact (below_size (by repeat (first | (with_reducible first | exact HB.out | apply below_alloc | apply pw_below_drewN | apply below_drew1) | exact HB.out))) : w.heap.size ≤ gb234)); have n3_ := Aside0.mk ((by rw [hg]; exact (below_size (by repeat (first | (with_reducible first | exact HB.out | apply below_alloc | apply pw_below_drewN | apply below_drew1) | exact HB.out))) : w.heap.size ≤ gb234)); clear HB; have HB := n0_; have BK234 := n1_; have GW234 := n2_; have GE234 := n3_; clear n0_ n1_ n2_ n3_; clear hb hbox hg; have hcz10_0 : w9.cell? ⟨gb234, 0, none⟩ = some (.int .u8 a0_0) := (blk_cell BK234.out 0).trans rfl; have hcz10_1 : w9.cell? ⟨gb234, 1, none⟩ = some (.int .u8 a0_1) := (blk_cell BK234.out 1).trans rfl; have hcz10_2 : w9.cell? ⟨gb234, 2, none⟩ = some (.int .i64 a0_2) := (blk_cell BK234.out 2).trans rfl; have hcz10_3 : w9.cell? ⟨gb234, 3, none⟩ = some (.int .i64 a0_3) := (blk_cell BK234.out 3).trans rfl; have hcz10_4 : w9.cell? ⟨gb234, 4, none⟩ = some (.int .i64 a0_4) := (blk_cell BK234.out 4).trans rfl; have hcz10_5 : w9.cell? ⟨gb234, 5, none⟩ = some (.int .i64 a0_5) := (blk_cell BK234.out 5).trans rfl; have hfz10_0 := blk_frozen BK234.out 0; have hfz10_1 := blk_frozen BK234.out 1; have hfz10_2 := blk_frozen BK234.out 2; have hfz10_3 := blk_frozen BK234.out 3; have hfz10_4 := blk_frozen BK234.out 4; have hfz10_5 := blk_frozen BK234.out 5))
        go_ret
        exact ⟨by first | rfl | (simp [errW_none, errW_some] <;> rfl) | (simp [*, errW_none, errW_some] <;> rfl), by repeat (first | (with_reducible first | exact HB.out | apply below_alloc | apply pw_below_drewN | apply below_drew1 | refine below_set ?_ GE234.out) | exact HB.out)⟩
      · rw [if_neg c8] at H
        have c8b0 : (a0_0 == 3) = false := beq_eq_false_iff_ne.mpr c8
        have c8b1 : (a0_0 != 3) = true := bne_iff_ne.mpr c8
        by_cases c11 : a0_0 = 6
        · rw [if_pos c11] at H
          have c11b0 : (a0_0 == 6) = true := beq_iff_eq.mpr c11
          have c11b1 : (a0_0 != 6) = false := bne_eq_false_iff_eq.mpr c11
          clear c11
          obtain rfl := Option.some.inj H
          go_enter Try.func19, Try.ntmps19
          go_wp2_with (first | ((with_reducible refine gate_dst (N := 1) rfl ?_); refine box_event ?hg (N := 1) ?hd (cs := #[.int .u8 a0_0, .int .u8 a0_1, .int .i64 a0_2, .int .i64 a0_3, .int .i64 a0_4, .int .i64 a0_5]) (t := 46) ?hr ?_; (case hd => rfl); (case hg => rfl); (case hr => first | (go_simp; done) | (go_simp; rfl)); intro gb234 hg w12 hbox hb; have n0_ := Aside0.mk (below_step (by repeat (first | (with_reducible first | exact HB.out | apply below_alloc | apply pw_below_drewN | apply below_drew1) | exact HB.out)) hb); have n1_ := Aside0.mk (hbox); have n2_ := Aside0.mk ((by rw [hg]; exact (below_size (by repeat (first | (with_reducible first | exact HB.out | apply below_alloc | apply pw_below_drewN | apply below_drew1) | exact HB.out))) : w.heap.size ≤ gb234)); have n3_ := Aside0.mk ((by rw [hg]; exact (below_size (by repeat (first | (with_reducible first | exact HB.out | apply below_alloc | apply pw_below_drewN | apply below_drew1) | exact HB.out))) : w.heap.size ≤ gb234)); clear HB; have HB := n0_; have BK234 := n1_; have GW234 := n2_; have GE234 := n3_; clear n0_ n1_ n2_ n3_; clear hb hbox hg; have hcz13_0 : w12.cell? ⟨gb234, 0, none⟩ = some (.int .u8 a0_0) := (blk_cell BK234.out 0).trans rfl; have hcz13_1 : w12.cell? ⟨gb234, 1, none⟩ = some (.int .u8 a0_1) := (blk_cell BK234.out 1).trans rfl; have hcz13_2 : w12.cell? ⟨gb234, 2, none⟩ = some (.int .i64 a0_2) := (blk_cell BK234.out 2).trans rfl; have hcz13_3 : w12.cell? ⟨gb234, 3, none⟩ = some (.int .i64 a0_3) := (blk_cell BK234.out 3).trans rfl; have hcz13_4 : w12.cell? ⟨gb234, 4, none⟩ = some (.int .i64 a0_4) := (blk_cell BK234.out 4).trans rfl; have hcz13_5 : w12.cell? ⟨gb234, 5, none⟩ = some (.int .i64 a0_5) := (blk_cell BK234.out 5).trans rfl; have hfz13_0 := blk_frozen BK234.out 0; have hfz13_1 := blk_frozen BK234.out 1; have hfz13_2 := blk_frozen BK234.out 2; have hfz13_3 := blk_frozen BK234.out 3; have hfz13_4 := blk_frozen BK234.out 4; have hfz13_5 := blk_frozen BK234.out 5))
          go_ret
          exact ⟨by first | rfl | (simp [errW_none, errW_some] <;> rfl) | (simp [*, errW_none, errW_some] <;> rfl), by repeat (first | (with_reducible first | exact HB.out | apply below_alloc | apply pw_below_drewN | apply below_drew1 | refine below_set ?_ GE234.out) | exact HB.out)⟩
        · rw [if_neg c11] at H
          have c11b0 : (a0_0 == 6) = false := beq_eq_false_iff_ne.mpr c11
          have c11b1 : (a0_0 != 6) = true := bne_iff_ne.mpr c11
          by_cases c14 : a0_0 = 7
          · rw [if_pos c14] at H
            have c14b0 : (a0_0 == 7) = true := beq_iff_eq.mpr c14
            have c14b1 : (a0_0 != 7) = false := bne_eq_false_iff_eq.mpr c14
            clear c14
            obtain rfl := Option.some.inj H
            go_enter Try.func19, Try.ntmps19
            go_wp2_with (first | ((with_reducible refine gate_dst (N := 1) rfl ?_); refine box_event ?hg (N := 1) ?hd (cs := #[.int .u8 a0_0, .int .u8 a0_1, .int .i64 a0_2, .int .i64 a0_3, .int .i64 a0_4, .int .i64 a0_5]) (t := 46) ?hr ?_; (case hd => rfl); (case hg => rfl); (case hr => first | (go_simp; done) | (go_simp; rfl)); intro gb234 hg w15 hbox hb; have n0_ := Aside0.mk (below_step (by repeat (first | (with_reducible first | exact HB.out | apply below_alloc | apply pw_below_drewN | apply below_drew1) | exact HB.out)) hb); have n1_ := Aside0.mk (hbox); have n2_ := Aside0.mk ((by rw [hg]; exact (below_size (by repeat (first | (with_reducible first | exact HB.out | apply below_alloc | apply pw_below_drewN | apply below_drew1) | exact HB.out))) : w.heap.size ≤ gb234)); have n3_ := Aside0.mk ((by rw [hg]; exact (below_size (by repeat (first | (with_reducible first | exact HB.out | apply below_alloc | apply pw_below_drewN | apply below_drew1) | exact HB.out))) : w.heap.size ≤ gb234)); clear HB; have HB := n0_; have BK234 := n1_; have GW234 := n2_; have GE234 := n3_; clear n0_ n1_ n2_ n3_; clear hb hbox hg; have hcz16_0 : w15.cell? ⟨gb234, 0, none⟩ = some (.int .u8 a0_0) := (blk_cell BK234.out 0).trans rfl; have hcz16_1 : w15.cell? ⟨gb234, 1, none⟩ = some (.int .u8 a0_1) := (blk_cell BK234.out 1).trans rfl; have hcz16_2 : w15.cell? ⟨gb234, 2, none⟩ = some (.int .i64 a0_2) := (blk_cell BK234.out 2).trans rfl; have hcz16_3 : w15.cell? ⟨gb234, 3, none⟩ = some (.int .i64 a0_3) := (blk_cell BK234.out 3).trans rfl; have hcz16_4 : w15.cell? ⟨gb234, 4, none⟩ = some (.int .i64 a0_4) := (blk_cell BK234.out 4).trans rfl; have hcz16_5 : w15.cell? ⟨gb234, 5, none⟩ = some (.int .i64 a0_5) := (blk_cell BK234.out 5).trans rfl; have hfz16_0 := blk_frozen BK234.out 0; have hfz16_1 := blk_frozen BK234.out 1; have hfz16_2 := blk_frozen BK234.out 2; have hfz16_3 := blk_frozen BK234.out 3; have hfz16_4 := blk_frozen BK234.out 4; have hfz16_5 := blk_frozen BK234.out 5))
            go_ret
            exact ⟨by first | rfl | (simp [errW_none, errW_some] <;> rfl) | (simp [*, errW_none, errW_some] <;> rfl), by repeat (first | (with_reducible first | exact HB.out | apply below_alloc | apply pw_below_drewN | apply below_drew1 | refine below_set ?_ GE234.out) | exact HB.out)⟩
          · rw [if_neg c14] at H
            have c14b0 : (a0_0 == 7) = false := beq_eq_false_iff_ne.mpr c14
            have c14b1 : (a0_0 != 7) = true := bne_iff_ne.mpr c14
            by_cases c17 : a0_0 = 8
            · rw [if_pos c17] at H
              have c17b0 : (a0_0 == 8) = true := beq_iff_eq.mpr c17
              have c17b1 : (a0_0 != 8) = false := bne_eq_false_iff_eq.mpr c17
              clear c17
              obtain rfl := Option.some.inj H
              go_enter Try.func19, Try.ntmps19
              go_wp2_with (first | ((with_reducible refine gate_dst (N := 1) rfl ?_); refine box_event ?hg (N := 1) ?hd (cs := #[.int .u8 a0_0, .int .u8 a0_1, .int .i64 a0_2, .int .i64 a0_3, .int .i64 a0_4, .int .i64 a0_5]) (t := 46) ?hr ?_; (case hd => rfl); (case hg => rfl); (case hr => first | (go_simp; done) | (go_simp; rfl)); intro gb234 hg w18 hbox hb; have n0_ := Aside0.mk (below_step (by repeat (first | (with_reducible first | exact HB.out | apply below_alloc | apply pw_below_drewN | apply below_drew1) | exact HB.out)) hb); have n1_ := Aside0.mk (hbox); have n2_ := Aside0.mk ((by rw [hg]; exact (below_size (by repeat (first | (with_reducible first | exact HB.out | apply below_alloc | apply pw_below_drewN | apply below_drew1) | exact HB.out))) : w.heap.size ≤ gb234)); have n3_ := Aside0.mk ((by rw [hg]; exact (below_size (by repeat (first | (with_reducible first | exact HB.out | apply below_alloc | apply pw_below_drewN | apply below_drew1) | exact HB.out))) : w.heap.size ≤ gb234)); clear HB; have HB := n0_; have BK234 := n1_; have GW234 := n2_; have GE234 := n3_; clear n0_ n1_ n2_ n3_; clear hb hbox hg; have hcz19_0 : w18.cell? ⟨gb234, 0, none⟩ = some (.int .u8 a0_0) := (blk_cell BK234.out 0).trans rfl; have hcz19_1 : w18.cell? ⟨gb234, 1, none⟩ = some (.int .u8 a0_1) := (blk_cell BK234.out 1).trans rfl; have hcz19_2 : w18.cell? ⟨gb234, 2, none⟩ = some (.int .i64 a0_2) := (blk_cell BK234.out 2).trans rfl; have hcz19_3 : w18.cell? ⟨gb234, 3, none⟩ = some (.int .i64 a0_3) := (blk_cell BK234.out 3).trans rfl; have hcz19_4 : w18.cell? ⟨gb234, 4, none⟩ = some (.int .i64 a0_4) := (blk_cell BK234.out 4).trans rfl; have hcz19_5 : w18.cell? ⟨gb234, 5, none⟩ = some (.int .i64 a0_5) := (blk_cell BK234.out 5).trans rfl; have hfz19_0 := blk_frozen BK234.out 0; have hfz19_1 := blk_frozen BK234.out 1; have hfz19_2 := blk_frozen BK234.out 2; have hfz19_3 := blk_frozen BK234.out 3; have hfz19_4 := blk_frozen BK234.out 4; have hfz19_5 := blk_frozen BK234.out 5))
              go_ret
              exact ⟨by first | rfl | (simp [errW_none, errW_some] <;> rfl) | (simp [*, errW_none, errW_some] <;> rfl), by repeat (first | (with_reducible first | exact HB.out | apply below_alloc | apply pw_below_drewN | apply below_drew1 | refine below_set ?_ GE234.out) | exact HB.out)⟩
            · rw [if_neg c17] at H
              have c17b0 : (a0_0 == 8) = false := beq_eq_false_iff_ne.mpr c17
              have c17b1 : (a0_0 != 8) = true := bne_iff_ne.mpr c17
              by_cases c20 : a0_0 = 10
              · rw [if_pos c20] at H
                have c20b0 : (a0_0 == 10) = true := beq_iff_eq.mpr c20
                have c20b1 : (a0_0 != 10) = false := bne_eq_false_iff_eq.mpr c20
                clear c20
                obtain rfl := Option.some.inj H
                go_enter Try.func19, Try.ntmps19
                go_wp2_with (first | ((with_reducible refine gate_dst (N := 1) rfl ?_); refine box_event ?hg (N := 1) ?hd (cs := #[.int .u8 a0_0, .int .u8 a0_1, .int .i64 a0_2, .int .i64 a0_3, .int .i64 a0_4, .int .i64 a0_5]) (t := 46) ?hr ?_; (case hd => rfl); (case hg => rfl); (case hr => first | (go_simp; done) | (go_simp; rfl)); intro gb234 hg w21 hbox hb; have n0_ := Aside0.mk (below_step (by repeat (first | (with_reducible first | exact HB.out | apply below_alloc | apply pw_below_drewN | apply below_drew1) | exact HB.out)) hb); have n1_ := Aside0.mk (hbox); have n2_ := Aside0.mk ((by rw [hg]; exact (below_size (by repeat (first | (with_reducible first | exact HB.out | apply below_alloc | apply pw_below_drewN | apply below_drew1) | exact HB.out))) : w.heap.size ≤ gb234)); have n3_ := Aside0.mk ((by rw [hg]; exact (below_size (by repeat (first | (with_reducible first | exact HB.out | apply below_alloc | apply pw_below_drewN | apply below_drew1) | exact HB.out))) : w.heap.size ≤ gb234)); clear HB; have HB := n0_; have BK234 := n1_; have GW234 := n2_; have GE234 := n3_; clear n0_ n1_ n2_ n3_; clear hb hbox hg; have hcz22_0 : w21.cell? ⟨gb234, 0, none⟩ = some (.int .u8 a0_0) := (blk_cell BK234.out 0).trans rfl; have hcz22_1 : w21.cell? ⟨gb234, 1, none⟩ = some (.int .u8 a0_1) := (blk_cell BK234.out 1).trans rfl; have hcz22_2 : w21.cell? ⟨gb234, 2, none⟩ = some (.int .i64 a0_2) := (blk_cell BK234.out 2).trans rfl; have hcz22_3 : w21.cell? ⟨gb234, 3, none⟩ = some (.int .i64 a0_3) := (blk_cell BK234.out 3).trans rfl; have hcz22_4 : w21.cell? ⟨gb234, 4, none⟩ = some (.int .i64 a0_4) := (blk_cell BK234.out 4).trans rfl; have hcz22_5 : w21.cell? ⟨gb234, 5, none⟩ = some (.int .i64 a0_5) := (blk_cell BK234.out 5).trans rfl; have hfz22_0 := blk_frozen BK234.out 0; have hfz22_1 := blk_frozen BK234.out 1; have hfz22_2 := blk_frozen BK234.out 2; have hfz22_3 := blk_frozen BK234.out 3; have hfz22_4 := blk_frozen BK234.out 4; have hfz22_5 := blk_frozen BK234.out 5))
                go_ret
                exact ⟨by first | rfl | (simp [errW_none, errW_some] <;> rfl) | (simp [*, errW_none, errW_some] <;> rfl), by repeat (first | (with_reducible first | exact HB.out | apply below_alloc | apply pw_below_drewN | apply below_drew1 | refine below_set ?_ GE234.out) | exact HB.out)⟩
              · rw [if_neg c20] at H
                have c20b0 : (a0_0 == 10) = false := beq_eq_false_iff_ne.mpr c20
                have c20b1 : (a0_0 != 10) = true := bne_iff_ne.mpr c20
                obtain rfl := Option.some.inj H
                go_enter Try.func19, Try.ntmps19
                go_wp2_with (first | ((with_reducible refine gate_dst (N := 1) rfl ?_); refine box_event ?hg (N := 1) ?hd (cs := #[.int .u8 a0_0, .int .u8 a0_1, .int .i64 a0_2, .int .i64 a0_3, .int .i64 a0_4, .int .i64 a0_5]) (t := 46) ?hr ?_; (case hd => rfl); (case hg => rfl); (case hr => first | (go_simp; done) | (go_simp; rfl)); intro gb234 hg w23 hbox hb; have n0_ := Aside0.mk (below_step (by repeat (first | (with_reducible first | exact HB.out | apply below_alloc | apply pw_below_drewN | apply below_drew1) | exact HB.out)) hb); have n1_ := Aside0.mk (hbox); have n2_ := Aside0.mk ((by rw [hg]; exact (below_size (by repeat (first | (with_reducible first | exact HB.out | apply below_alloc | apply pw_below_drewN | apply below_drew1) | exact HB.out))) : w.heap.size ≤ gb234)); have n3_ := Aside0.mk ((by rw [hg]; exact (below_size (by repeat (first | (with_reducible first | exact HB.out | apply below_alloc | apply pw_below_drewN | apply below_drew1) | exact HB.out))) : w.heap.size ≤ gb234)); clear HB; have HB := n0_; have BK234 := n1_; have GW234 := n2_; have GE234 := n3_; clear n0_ n1_ n2_ n3_; clear hb hbox hg; have hcz24_0 : w23.cell? ⟨gb234, 0, none⟩ = some (.int .u8 a0_0) := (blk_cell BK234.out 0).trans rfl; have hcz24_1 : w23.cell? ⟨gb234, 1, none⟩ = some (.int .u8 a0_1) := (blk_cell BK234.out 1).trans rfl; have hcz24_2 : w23.cell? ⟨gb234, 2, none⟩ = some (.int .i64 a0_2) := (blk_cell BK234.out 2).trans rfl; have hcz24_3 : w23.cell? ⟨gb234, 3, none⟩ = some (.int .i64 a0_3) := (blk_cell BK234.out 3).trans rfl; have hcz24_4 : w23.cell? ⟨gb234, 4, none⟩ = some (.int .i64 a0_4) := (blk_cell BK234.out 4).trans rfl; have hcz24_5 : w23.cell? ⟨gb234, 5, none⟩ = some (.int .i64 a0_5) := (blk_cell BK234.out 5).trans rfl; have hfz24_0 := blk_frozen BK234.out 0; have hfz24_1 := blk_frozen BK234.out 1; have hfz24_2 := blk_frozen BK234.out 2; have hfz24_3 := blk_frozen BK234.out 3; have hfz24_4 := blk_frozen BK234.out 4; have hfz24_5 := blk_frozen BK234.out 5))
                go_ret
                exact ⟨by first | rfl | (simp [errW_none, errW_some] <;> rfl) | (simp [*, errW_none, errW_some] <;> rfl), by repeat (first | (with_reducible first | exact HB.out | apply below_alloc | apply pw_below_drewN | apply below_drew1 | refine below_set ?_ GE234.out) | exact HB.out)⟩
end Go.Proofs.Ytjmeignhhheckaa.Q
namespace Go.Proofs.Ytjmeignhhheckaa.Q
open Go.RowKit Go.Proofs.YtjmeignhhheckaaW.PrintWords Go.Proofs.YtjmeignhhheckaaW.PrintLast Go.Proofs.YtjmeignhhheckaaW.PrintMore
attribute [local go_sem] max2_int min2_int max_two min_two max_three min_three max_four min_four   -- for this text's walks alone
set_option linter.unusedVariables false
set_option linter.unusedSimpArgs false
def turnstilelaw13_has.l0 : Nat → List Int → Int → Int → Option (Bool)
  | 0, _, _, _ => none
  | k + 1, x0, x1, x5 => if x5 < (x0.length : Int) then (if 0 ≤ x5 then (if (rd x0 x5) = x1 then (some true) else (turnstilelaw13_has.l0 k x0 x1 (wrap64 (x5 + 1)))) else (none)) else (some false)
def turnstilelaw13_has.f (k : Nat) (l0 : List Int) (a1 : Int) : Option (Bool) := turnstilelaw13_has.l0 k l0 a1 0
theorem turnstilelaw13_has.mono_l : ∀ k, (∀ y0 y1 y2, LeO (turnstilelaw13_has.l0 k y0 y1 y2) (turnstilelaw13_has.l0 (k + 1) y0 y1 y2))
  | 0 => fun _ _ _ r h => by simp [turnstilelaw13_has.l0] at h
  | k + 1 => by
    have ih0 := turnstilelaw13_has.mono_l k
    · intro y0 y1 y2
      unfold turnstilelaw13_has.l0
      repeat' first
      | (with_reducible exact ih0 _ _ _)
      | (with_reducible exact LeO.refl _)
      | (with_reducible exact LeO.none _)
      | (with_reducible refine LeO.ite ?_ ?_)
      | (with_reducible refine LeO.bind ?_ (fun _ => ?_))
      | exact ih0 _ _ _
      | exact LeO.none _
      | refine LeO.ite ?_ ?_
      | refine LeO.bind ?_ (fun _ => ?_)
theorem turnstilelaw13_has.mono : ∀ a0 a1 k, LeO (turnstilelaw13_has.f k a0 a1) (turnstilelaw13_has.f (k + 1) a0 a1) := by
  intro a0 a1 k
  have ih0 := turnstilelaw13_has.mono_l k
  unfold turnstilelaw13_has.f
  repeat' first
      | (with_reducible exact ih0 _ _ _)
      | (with_reducible exact LeO.refl _)
      | (with_reducible exact LeO.none _)
      | (with_reducible refine LeO.ite ?_ ?_)
      | (with_reducible refine LeO.bind ?_ (fun _ => ?_))
      | exact ih0 _ _ _
      | exact LeO.none _
      | refine LeO.ite ?_ ?_
      | refine LeO.bind ?_ (fun _ => ?_)
set_option maxHeartbeats 8000000 in
set_option maxRecDepth 100000 in
theorem turnstilelaw13_has.calls (k : Nat) (A0 : Option Addr) (c0 : Nat) (l0 : List Int) (a1 : Int) (r : Bool) (w : World) (hr0 : Kd.C (Kd.int .i64) w A0 l0.length l0) (hc0 : l0.length ≤ c0) (h : turnstilelaw13_has.f k l0 a1 = some r) :
    Calls Try.prog 20 #[.slice A0 l0.length c0, .int .i64 a1] w fun e w' => e = .returned (.bool r) ∧ Drawn0 w w' := by
  have HR0 := Aside0.mk hr0
  have HC0 := Aside0.mk hc0
  clear hr0 hc0
  have H : (turnstilelaw13_has.l0 k l0 a1 0) = some r := h
  clear h
  have H' := Aside0.mk H
  clear H
  go_enter Try.func20, Try.ntmps20
  go_wp2
  go_loopg [5] k (fun kq v5 w' => ∃ (x5_1 : Int), v5 = .int .i64 x5_1 ∧ Aside0 (turnstilelaw13_has.l0 kq l0 a1 x5_1 = some r) ∧ Aside0 (kq ≤ k) ∧ Drawn0 w w')
  case atStart => exact ⟨(0), (by first | rfl | (simp; done) | (simp [*]; done)), H', ⟨Nat.le_refl _⟩, by repeat (first | exact Drawn0.refl _ | apply Drawn0.step)⟩
  case round =>
    clear H'
    try clear c2
    try clear p2
    obtain ⟨x5_1, rfl, HA, HK1, ⟨m1, rfl⟩⟩ := hrel
    cases gk with
    | zero => exact absurd HA.out (by simp [turnstilelaw13_has.l0])
    | succ k1 =>
      have H := HA.out
      clear HA
      simp only [turnstilelaw13_has.l0] at H
      by_cases c3 : x5_1 < (l0.length : Int)
      · rw [if_pos c3] at H
        have c3b0 : decide (x5_1 < (l0.length : Int)) = true := decide_eq_true c3
        clear c3
        by_cases c4 : 0 ≤ x5_1
        · rw [if_pos c4] at H
          have c4b0 : decide (0 ≤ x5_1) = true := decide_eq_true c4
          clear c4
          by_cases c5 : (rd l0 x5_1) = a1
          · rw [if_pos c5] at H
            have c5b0 : ((rd l0 x5_1) == a1) = true := beq_iff_eq.mpr c5
            have c5b1 : ((rd l0 x5_1) != a1) = false := bne_eq_false_iff_eq.mpr c5
            clear c5
            obtain rfl := Option.some.inj H
            have p235 : 0 ≤ (x5_1 : Int) := of_decide_eq_true (by first | (with_reducible assumption) | assumption)
            have q235 : x5_1 < (l0.length : Int) := of_decide_eq_true (by first | (with_reducible assumption) | assumption)
            obtain ⟨ad235, e235, hx235_0⟩ := Kd.at_int HR0.out x5_1 p235 q235
            cases e235
            replace p235 := eq_true p235
            replace q235 := eq_true q235
            go_wp2
            go_ret
            exact ⟨by first | rfl | (simp; done) | (simp [*]; done), by repeat (first | exact Drawn0.refl _ | apply Drawn0.step)⟩
          · rw [if_neg c5] at H
            have c5b0 : ((rd l0 x5_1) == a1) = false := beq_eq_false_iff_ne.mpr c5
            have c5b1 : ((rd l0 x5_1) != a1) = true := bne_iff_ne.mpr c5
            have H' := Aside0.mk H
            clear H
            have p235 : 0 ≤ (x5_1 : Int) := of_decide_eq_true (by first | (with_reducible assumption) | assumption)
            have q235 : x5_1 < (l0.length : Int) := of_decide_eq_true (by first | (with_reducible assumption) | assumption)
            obtain ⟨ad235, e235, hx235_0⟩ := Kd.at_int HR0.out x5_1 p235 q235
            cases e235
            replace p235 := eq_true p235
            replace q235 := eq_true q235
            go_wp2
            go_roundg k1
            case measure => have := HK1.out; omega
            case rel => exact ⟨(wrap64 (x5_1 + 1)), (by first | rfl | (simp; done) | (simp [*]; done)), H', ⟨by have := HK1.out; omega⟩, by repeat (first | exact Drawn0.refl _ | apply Drawn0.step)⟩
        · rw [if_neg c4] at H
          exact absurd H (by simp)
      · rw [if_neg c3] at H
        have c3b0 : decide (x5_1 < (l0.length : Int)) = false := decide_eq_false c3
        clear c3
        obtain rfl := Option.some.inj H
        go_wp2
        go_ret
        exact ⟨by first | rfl | (simp; done) | (simp [*]; done), by repeat (first | exact Drawn0.refl _ | apply Drawn0.step)⟩
end Go.Proofs.Ytjmeignhhheckaa.Q
namespace Go.Proofs.Ytjmeignhhheckaa.Q
open Go.RowKit Go.Proofs.YtjmeignhhheckaaW.PrintWords Go.Proofs.YtjmeignhhheckaaW.PrintLast Go.Proofs.YtjmeignhhheckaaW.PrintMore
attribute [local go_sem] max2_int min2_int max_two min_two max_three min_three max_four min_four   -- for this text's walks alone
set_option linter.unusedVariables false
set_option linter.unusedSimpArgs false
mutual
def turnstilelaw13_LiveSteps.j0 : Nat → Int → List (List Int) → Bool → List Bool → Int → List (S36) → Option (Bool)
  | 0, _, _, _, _, _, _ => none
  | k + 1, x1, x5, x36, x237000, x237001, x237002 => if x36 = true then ((turnstilelaw13_alive.f k).bind fun t246 => (some t246)) else (if (x5.length : Int) = (x237002.length : Int) then (if 0 ≤ x1 then (if x1 < (x237002.length : Int) then ((live_At.f x237000 x237001 x237002 x1 (((rd_T36 x237002 x1).f0).length : Int)).bind fun bt248 => (if bt248.2 = 0 then (if ((rd_T36 x237002 x1).f1) = 3 then (turnstilelaw13_LiveSteps.j1 k x1 x5 ((rd_T36 x237002 x1).f0) bt248.1 (decide ((bt248.1.length : Int) > 0)) x237000 x237001 x237002) else (turnstilelaw13_LiveSteps.j1 k x1 x5 ((rd_T36 x237002 x1).f0) bt248.1 false x237000 x237001 x237002)) else (turnstilelaw13_LiveSteps.j1 k x1 x5 ((rd_T36 x237002 x1).f0) bt248.1 true x237000 x237001 x237002))) else (none)) else (none)) else (some false))
def turnstilelaw13_LiveSteps.j1 : Nat → Int → List (List Int) → List (S46) → List Int → Bool → List Bool → Int → List (S36) → Option (Bool)
  | 0, _, _, _, _, _, _, _, _ => none
  | k + 1, x1, x5, x7, x8, x74, x237000, x237001, x237002 => if x74 = true then (some false) else (turnstilelaw13_LiveSteps.l0 k x1 x5 x7 x8 (wrap64 ((x7.length : Int) - 1)) x237000 x237001 x237002)
def turnstilelaw13_LiveSteps.l0 : Nat → Int → List (List Int) → List (S46) → List Int → Int → List Bool → Int → List (S36) → Option (Bool)
  | 0, _, _, _, _, _, _, _, _ => none
  | k + 1, x1, x5, x7, x8, x9, x237000, x237001, x237002 => if x9 ≥ 0 then ((live_At.f x237000 x237001 x237002 x1 x9).bind fun bt256 => (if 0 ≤ x9 then (if x9 < (x7.length : Int) then ((turnstileref09_Reads.f k ((rd_T46 x7 x9).f0) ((rd_T46 x7 x9).f1) ((rd_T46 x7 x9).f2) ((rd_T46 x7 x9).f3) ((rd_T46 x7 x9).f4) ((rd_T46 x7 x9).f5)).bind fun t261 => ((turnstileref09_Writes.f ((rd_T46 x7 x9).f0) ((rd_T46 x7 x9).f1) ((rd_T46 x7 x9).f2) ((rd_T46 x7 x9).f3) ((rd_T46 x7 x9).f4) ((rd_T46 x7 x9).f5)).bind fun t265 => (turnstilelaw13_LiveSteps.l1 k x1 x5 x7 x8 x9 bt256.1 bt256.2 t261 t265 0 x237000 x237001 x237002))) else (none)) else (none))) else (if 0 ≤ x1 then (if x1 < (x5.length : Int) then ((turnstilelaw01_SameNumbers.f k x8 (rd_L13 x5 x1)).bind fun t254 => (if t254 = true then ((turnstilelaw13_alive.f k).bind fun t255 => (some t255)) else (some false))) else (none)) else (none))
def turnstilelaw13_LiveSteps.l1 : Nat → Int → List (List Int) → List (S46) → List Int → Int → List Int → Int → List Int → Int → Int → List Bool → Int → List (S36) → Option (Bool)
  | 0, _, _, _, _, _, _, _, _, _, _, _, _, _ => none
  | k + 1, x1, x5, x7, x8, x9, x10, x11, x12, x13, x14, x237000, x237001, x237002 => if x14 < (x237000.length : Int) then ((turnstilelaw13_has.f k x10 x14).bind fun t266 => ((turnstilelaw13_has.f k x12 x14).bind fun t267 => (if t267 = true then (if (t266 != true) = true then (some false) else (turnstilelaw13_LiveSteps.l1 k x1 x5 x7 x8 x9 x10 x11 x12 x13 (wrap64 (x14 + 1)) x237000 x237001 x237002)) else ((turnstilelaw13_has.f k x8 x14).bind fun t268 => (if t268 = true then (if (t266 != (x14 != x13)) = true then (some false) else (turnstilelaw13_LiveSteps.l1 k x1 x5 x7 x8 x9 x10 x11 x12 x13 (wrap64 (x14 + 1)) x237000 x237001 x237002)) else (if (t266 != false) = true then (some false) else (turnstilelaw13_LiveSteps.l1 k x1 x5 x7 x8 x9 x10 x11 x12 x13 (wrap64 (x14 + 1)) x237000 x237001 x237002))))))) else (if x11 = 0 then (turnstilelaw13_LiveSteps.l0 k x1 x5 x7 x10 (wrap64 (x9 - 1)) x237000 x237001 x237002) else (some false))
end
def turnstilelaw13_LiveSteps.f (k : Nat) (l0_0 : List Bool) (a0_1 : Int) (l0_2 : List (S36)) (a1 : Int) : Option (Bool) := (turnstilelaw01_GraphSize.f k l0_0 a0_1 l0_2).bind fun t237 => ((turnstilelaw01_Beyond.f k (([t237] : List Int))).bind fun t241 => (if t241 = true then (some true) else ((live_In.f l0_0 a0_1 l0_2).bind fun bt242 => (if bt242.2 = 0 then (if a1 < 0 then (turnstilelaw13_LiveSteps.j0 k a1 bt242.1 true l0_0 a0_1 l0_2) else (turnstilelaw13_LiveSteps.j0 k a1 bt242.1 (decide (a1 ≥ (l0_2.length : Int))) l0_0 a0_1 l0_2)) else (turnstilelaw13_LiveSteps.j0 k a1 bt242.1 true l0_0 a0_1 l0_2)))))
theorem turnstilelaw13_LiveSteps.mono_l : ∀ k, (∀ y0 y1 y2 y3 y4 y5, LeO (turnstilelaw13_LiveSteps.j0 k y0 y1 y2 y3 y4 y5) (turnstilelaw13_LiveSteps.j0 (k + 1) y0 y1 y2 y3 y4 y5)) ∧ (∀ y0 y1 y2 y3 y4 y5 y6 y7, LeO (turnstilelaw13_LiveSteps.j1 k y0 y1 y2 y3 y4 y5 y6 y7) (turnstilelaw13_LiveSteps.j1 (k + 1) y0 y1 y2 y3 y4 y5 y6 y7)) ∧ (∀ y0 y1 y2 y3 y4 y5 y6 y7, LeO (turnstilelaw13_LiveSteps.l0 k y0 y1 y2 y3 y4 y5 y6 y7) (turnstilelaw13_LiveSteps.l0 (k + 1) y0 y1 y2 y3 y4 y5 y6 y7)) ∧ (∀ y0 y1 y2 y3 y4 y5 y6 y7 y8 y9 y10 y11 y12, LeO (turnstilelaw13_LiveSteps.l1 k y0 y1 y2 y3 y4 y5 y6 y7 y8 y9 y10 y11 y12) (turnstilelaw13_LiveSteps.l1 (k + 1) y0 y1 y2 y3 y4 y5 y6 y7 y8 y9 y10 y11 y12))
  | 0 => ⟨fun _ _ _ _ _ _ r h => by simp [turnstilelaw13_LiveSteps.j0] at h, fun _ _ _ _ _ _ _ _ r h => by simp [turnstilelaw13_LiveSteps.j1] at h, fun _ _ _ _ _ _ _ _ r h => by simp [turnstilelaw13_LiveSteps.l0] at h, fun _ _ _ _ _ _ _ _ _ _ _ _ _ r h => by simp [turnstilelaw13_LiveSteps.l1] at h⟩
  | k + 1 => by
    obtain ⟨ih0, ih1, ih2, ih3⟩ := turnstilelaw13_LiveSteps.mono_l k
    refine ⟨?_, ?_, ?_, ?_⟩
    · intro y0 y1 y2 y3 y4 y5
      unfold turnstilelaw13_LiveSteps.j0
      repeat' first
      | (with_reducible exact ih0 _ _ _ _ _ _)
      | (with_reducible exact ih1 _ _ _ _ _ _ _ _)
      | (with_reducible exact ih2 _ _ _ _ _ _ _ _)
      | (with_reducible exact ih3 _ _ _ _ _ _ _ _ _ _ _ _ _)
      | (with_reducible exact turnstilelaw01_Beyond.mono _ _)
      | (with_reducible exact turnstilelaw01_GraphSize.mono _ _ _ _)
      | (with_reducible exact turnstilelaw01_SameNumbers.mono _ _ _)
      | (with_reducible exact turnstilelaw13_alive.mono _)
      | (with_reducible exact turnstilelaw13_has.mono _ _ _)
      | (with_reducible exact turnstileref09_Reads.mono _ _ _ _ _ _ _)
      | (with_reducible exact LeO.refl _)
      | (with_reducible exact LeO.none _)
      | (with_reducible refine LeO.ite ?_ ?_)
      | (with_reducible refine LeO.bind ?_ (fun _ => ?_))
      | exact ih0 _ _ _ _ _ _
      | exact ih1 _ _ _ _ _ _ _ _
      | exact ih2 _ _ _ _ _ _ _ _
      | exact ih3 _ _ _ _ _ _ _ _ _ _ _ _ _
      | exact turnstilelaw01_Beyond.mono _ _
      | exact turnstilelaw01_GraphSize.mono _ _ _ _
      | exact turnstilelaw01_SameNumbers.mono _ _ _
      | exact turnstilelaw13_alive.mono _
      | exact turnstilelaw13_has.mono _ _ _
      | exact turnstileref09_Reads.mono _ _ _ _ _ _ _
      | exact LeO.none _
      | refine LeO.ite ?_ ?_
      | refine LeO.bind ?_ (fun _ => ?_)
    · intro y0 y1 y2 y3 y4 y5 y6 y7
      unfold turnstilelaw13_LiveSteps.j1
      repeat' first
      | (with_reducible exact ih0 _ _ _ _ _ _)
      | (with_reducible exact ih1 _ _ _ _ _ _ _ _)
      | (with_reducible exact ih2 _ _ _ _ _ _ _ _)
      | (with_reducible exact ih3 _ _ _ _ _ _ _ _ _ _ _ _ _)
      | (with_reducible exact turnstilelaw01_Beyond.mono _ _)
      | (with_reducible exact turnstilelaw01_GraphSize.mono _ _ _ _)
      | (with_reducible exact turnstilelaw01_SameNumbers.mono _ _ _)
      | (with_reducible exact turnstilelaw13_alive.mono _)
      | (with_reducible exact turnstilelaw13_has.mono _ _ _)
      | (with_reducible exact turnstileref09_Reads.mono _ _ _ _ _ _ _)
      | (with_reducible exact LeO.refl _)
      | (with_reducible exact LeO.none _)
      | (with_reducible refine LeO.ite ?_ ?_)
      | (with_reducible refine LeO.bind ?_ (fun _ => ?_))
      | exact ih0 _ _ _ _ _ _
      | exact ih1 _ _ _ _ _ _ _ _
      | exact ih2 _ _ _ _ _ _ _ _
      | exact ih3 _ _ _ _ _ _ _ _ _ _ _ _ _
      | exact turnstilelaw01_Beyond.mono _ _
      | exact turnstilelaw01_GraphSize.mono _ _ _ _
      | exact turnstilelaw01_SameNumbers.mono _ _ _
      | exact turnstilelaw13_alive.mono _
      | exact turnstilelaw13_has.mono _ _ _
      | exact turnstileref09_Reads.mono _ _ _ _ _ _ _
      | exact LeO.none _
      | refine LeO.ite ?_ ?_
      | refine LeO.bind ?_ (fun _ => ?_)
    · intro y0 y1 y2 y3 y4 y5 y6 y7
      unfold turnstilelaw13_LiveSteps.l0
      repeat' first
      | (with_reducible exact ih0 _ _ _ _ _ _)
      | (with_reducible exact ih1 _ _ _ _ _ _ _ _)
      | (with_reducible exact ih2 _ _ _ _ _ _ _ _)
      | (with_reducible exact ih3 _ _ _ _ _ _ _ _ _ _ _ _ _)
      | (with_reducible exact turnstilelaw01_Beyond.mono _ _)
      | (with_reducible exact turnstilelaw01_GraphSize.mono _ _ _ _)
      | (with_reducible exact turnstilelaw01_SameNumbers.mono _ _ _)
      | (with_reducible exact turnstilelaw13_alive.mono _)
      | (with_reducible exact turnstilelaw13_has.mono _ _ _)
      | (with_reducible exact turnstileref09_Reads.mono _ _ _ _ _ _ _)
      | (with_reducible exact LeO.refl _)
      | (with_reducible exact LeO.none _)
      | (with_reducible refine LeO.ite ?_ ?_)
      | (with_reducible refine LeO.bind ?_ (fun _ => ?_))
      | exact ih0 _ _ _ _ _ _
      | exact ih1 _ _ _ _ _ _ _ _
      | exact ih2 _ _ _ _ _ _ _ _
      | exact ih3 _ _ _ _ _ _ _ _ _ _ _ _ _
      | exact turnstilelaw01_Beyond.mono _ _
      | exact turnstilelaw01_GraphSize.mono _ _ _ _
      | exact turnstilelaw01_SameNumbers.mono _ _ _
      | exact turnstilelaw13_alive.mono _
      | exact turnstilelaw13_has.mono _ _ _
      | exact turnstileref09_Reads.mono _ _ _ _ _ _ _
      | exact LeO.none _
      | refine LeO.ite ?_ ?_
      | refine LeO.bind ?_ (fun _ => ?_)
    · intro y0 y1 y2 y3 y4 y5 y6 y7 y8 y9 y10 y11 y12
      unfold turnstilelaw13_LiveSteps.l1
      repeat' first
      | (with_reducible exact ih0 _ _ _ _ _ _)
      | (with_reducible exact ih1 _ _ _ _ _ _ _ _)
      | (with_reducible exact ih2 _ _ _ _ _ _ _ _)
      | (with_reducible exact ih3 _ _ _ _ _ _ _ _ _ _ _ _ _)
      | (with_reducible exact turnstilelaw01_Beyond.mono _ _)
      | (with_reducible exact turnstilelaw01_GraphSize.mono _ _ _ _)
      | (with_reducible exact turnstilelaw01_SameNumbers.mono _ _ _)
      | (with_reducible exact turnstilelaw13_alive.mono _)
      | (with_reducible exact turnstilelaw13_has.mono _ _ _)
      | (with_reducible exact turnstileref09_Reads.mono _ _ _ _ _ _ _)
      | (with_reducible exact LeO.refl _)
      | (with_reducible exact LeO.none _)
      | (with_reducible refine LeO.ite ?_ ?_)
      | (with_reducible refine LeO.bind ?_ (fun _ => ?_))
      | exact ih0 _ _ _ _ _ _
      | exact ih1 _ _ _ _ _ _ _ _
      | exact ih2 _ _ _ _ _ _ _ _
      | exact ih3 _ _ _ _ _ _ _ _ _ _ _ _ _
      | exact turnstilelaw01_Beyond.mono _ _
      | exact turnstilelaw01_GraphSize.mono _ _ _ _
      | exact turnstilelaw01_SameNumbers.mono _ _ _
      | exact turnstilelaw13_alive.mono _
      | exact turnstilelaw13_has.mono _ _ _
      | exact turnstileref09_Reads.mono _ _ _ _ _ _ _
      | exact LeO.none _
      | refine LeO.ite ?_ ?_
      | refine LeO.bind ?_ (fun _ => ?_)
theorem turnstilelaw13_LiveSteps.mono : ∀ a0 a1 a2 a3 k, LeO (turnstilelaw13_LiveSteps.f k a0 a1 a2 a3) (turnstilelaw13_LiveSteps.f (k + 1) a0 a1 a2 a3) := by
  intro a0 a1 a2 a3 k
  obtain ⟨ih0, ih1, ih2, ih3⟩ := turnstilelaw13_LiveSteps.mono_l k
  unfold turnstilelaw13_LiveSteps.f
  repeat' first
      | (with_reducible exact ih0 _ _ _ _ _ _)
      | (with_reducible exact ih1 _ _ _ _ _ _ _ _)
      | (with_reducible exact ih2 _ _ _ _ _ _ _ _)
      | (with_reducible exact ih3 _ _ _ _ _ _ _ _ _ _ _ _ _)
      | (with_reducible exact turnstilelaw01_Beyond.mono _ _)
      | (with_reducible exact turnstilelaw01_GraphSize.mono _ _ _ _)
      | (with_reducible exact turnstilelaw01_SameNumbers.mono _ _ _)
      | (with_reducible exact turnstilelaw13_alive.mono _)
      | (with_reducible exact turnstilelaw13_has.mono _ _ _)
      | (with_reducible exact turnstileref09_Reads.mono _ _ _ _ _ _ _)
      | (with_reducible exact LeO.refl _)
      | (with_reducible exact LeO.none _)
      | (with_reducible refine LeO.ite ?_ ?_)
      | (with_reducible refine LeO.bind ?_ (fun _ => ?_))
      | exact ih0 _ _ _ _ _ _
      | exact ih1 _ _ _ _ _ _ _ _
      | exact ih2 _ _ _ _ _ _ _ _
      | exact ih3 _ _ _ _ _ _ _ _ _ _ _ _ _
      | exact turnstilelaw01_Beyond.mono _ _
      | exact turnstilelaw01_GraphSize.mono _ _ _ _
      | exact turnstilelaw01_SameNumbers.mono _ _ _
      | exact turnstilelaw13_alive.mono _
      | exact turnstilelaw13_has.mono _ _ _
      | exact turnstileref09_Reads.mono _ _ _ _ _ _ _
      | exact LeO.none _
      | refine LeO.ite ?_ ?_
      | refine LeO.bind ?_ (fun _ => ?_)
def turnstilelaw13_LiveSteps.T16 : Bool × List (List Nat × List Nat) := (true, [([], []), ([], []), ([0, 1], [0, 1]), ([2], [2]), ([3], [3]), ([], []), ([], []), ([5, 6], [5, 6]), ([7], [7]), ([8, 4], [8]), ([4, 9, 0, 1, 2, 3, 4], [4]), ([9, 10, 0, 1, 2, 3, 4, 5, 6, 7, 8, 9, 10], [9])])
def turnstilelaw13_LiveSteps.B16 : List Nat := [0, 0, 3, 7, 15, 0, 0, 96, 224, 511, 1023, 2047]
theorem turnstilelaw13_LiveSteps.tab16 : rtab .any (opsOf Try.f3 16) = turnstilelaw13_LiveSteps.T16 := by kernel_rfl
theorem turnstilelaw13_LiveSteps.bits16 : waitsOk turnstilelaw13_LiveSteps.T16.2 turnstilelaw13_LiveSteps.B16 = true := by kernel_rfl
set_option maxHeartbeats 8000000 in
set_option maxRecDepth 100000 in
theorem turnstilelaw13_LiveSteps.calls (k : Nat) (A0_0 : Option Addr) (c0_0 : Nat) (l0_0 : List Bool) (a0_1 : Int) (A0_2 : Option Addr) (c0_2 : Nat) (l0_2 : List (S36)) (a1 : Int) (r : Bool) (w : World) (hr0_0 : Kd.C Kd.bool w A0_0 l0_0.length l0_0) (hc0_0 : l0_0.length ≤ c0_0) (hr0_2 : Kd.C k36 w A0_2 l0_2.length l0_2) (hc0_2 : l0_2.length ≤ c0_2) (h : turnstilelaw13_LiveSteps.f k l0_0 a0_1 l0_2 a1 = some r) :
    Calls Try.prog 3 #[.agg #[.slice A0_0 l0_0.length c0_0, .int .i64 a0_1, .slice A0_2 l0_2.length c0_2], .int .i64 a1] w fun e w' => e = .returned (.bool r) ∧ Below w.heap.size w w' := by
  have hu25 := Try.underlying25
  have hu41 := Try.underlying41
  have hu46 := Try.underlying46
  have HR0_0 := Aside0.mk hr0_0
  have HC0_0 := Aside0.mk hc0_0
  clear hr0_0 hc0_0
  have HR0_2 := Aside0.mk hr0_2
  have HC0_2 := Aside0.mk hc0_2
  clear hr0_2 hc0_2
  have HB := Aside0.mk (Below.refl w.heap.size w)
  have H : ((turnstilelaw01_GraphSize.f k l0_0 a0_1 l0_2).bind fun t237 => ((turnstilelaw01_Beyond.f k (([t237] : List Int))).bind fun t241 => (if t241 = true then (some true) else ((live_In.f l0_0 a0_1 l0_2).bind fun bt242 => (if bt242.2 = 0 then (if a1 < 0 then (turnstilelaw13_LiveSteps.j0 k a1 bt242.1 true l0_0 a0_1 l0_2) else (turnstilelaw13_LiveSteps.j0 k a1 bt242.1 (decide (a1 ≥ (l0_2.length : Int))) l0_0 a0_1 l0_2)) else (turnstilelaw13_LiveSteps.j0 k a1 bt242.1 true l0_0 a0_1 l0_2)))))) = some r := h
  clear h
  replace H := Option.bind_eq_some_iff.mp H
  obtain ⟨t237, A30, H⟩ := H
  replace H : ((turnstilelaw01_Beyond.f k (([t237] : List Int))).bind fun t241 => (if t241 = true then (some true) else ((live_In.f l0_0 a0_1 l0_2).bind fun bt242 => (if bt242.2 = 0 then (if a1 < 0 then (turnstilelaw13_LiveSteps.j0 k a1 bt242.1 true l0_0 a0_1 l0_2) else (turnstilelaw13_LiveSteps.j0 k a1 bt242.1 (decide (a1 ≥ (l0_2.length : Int))) l0_0 a0_1 l0_2)) else (turnstilelaw13_LiveSteps.j0 k a1 bt242.1 true l0_0 a0_1 l0_2))))) = some r := H
  have A3 := Aside0.mk A30
  clear A30
  obtain ⟨y238, hy238⟩ : ∃ y_ : List Int, y_ = (([t237] : List Int)) := ⟨_, rfl⟩
  replace H : ((turnstilelaw01_Beyond.f k y238).bind fun t241 => (if t241 = true then (some true) else ((live_In.f l0_0 a0_1 l0_2).bind fun bt242 => (if bt242.2 = 0 then (if a1 < 0 then (turnstilelaw13_LiveSteps.j0 k a1 bt242.1 true l0_0 a0_1 l0_2) else (turnstilelaw13_LiveSteps.j0 k a1 bt242.1 (decide (a1 ≥ (l0_2.length : Int))) l0_0 a0_1 l0_2)) else (turnstilelaw13_LiveSteps.j0 k a1 bt242.1 true l0_0 a0_1 l0_2))))) = some r := by first | (rw [hy238]; with_reducible exact H) | (have H2_ := (Option.bind_some _ _).symm.trans H; rw [hy238]; with_reducible exact H2_) | (have H2_ := (Option.bind_some _ _).symm.trans H; with_reducible exact H2_) | with_reducible exact H | (rw [hy238]; exact H) | exact H
  have Ny238 := Aside0.mk hy238
  clear hy238
  replace H := Option.bind_eq_some_iff.mp H
  obtain ⟨t241, A40, H⟩ := H
  replace H : (if t241 = true then (some true) else ((live_In.f l0_0 a0_1 l0_2).bind fun bt242 => (if bt242.2 = 0 then (if a1 < 0 then (turnstilelaw13_LiveSteps.j0 k a1 bt242.1 true l0_0 a0_1 l0_2) else (turnstilelaw13_LiveSteps.j0 k a1 bt242.1 (decide (a1 ≥ (l0_2.length : Int))) l0_0 a0_1 l0_2)) else (turnstilelaw13_LiveSteps.j0 k a1 bt242.1 true l0_0 a0_1 l0_2)))) = some r := H
  have A4 := Aside0.mk A40
  clear A40
  by_cases c5 : t241 = true
  · subst c5
    have H1 : (some true) = some r := by rw [if_pos rfl] at H; exact H
    clear H
    have H := H1
    clear H1
    obtain rfl := Option.some.inj H
    go_enter Try.func3, Try.ntmps3
    go_wp2_with (first | ((with_reducible refine gate_dst (N := 2) rfl ?_); (try (refine gate_guard (by rfl) ?_; dsimp only)); refine box_event ?hg (N := 2) ?hd (cs := #[.slice A0_0 l0_0.length c0_0, .int .i64 a0_1, .slice A0_2 l0_2.length c0_2]) (t := 25) ?hr ?_; (case hd => rfl); (case hg => rfl); (case hr => first | (go_simp; done) | (go_simp; rfl)); intro gb236 hg w6 hbox hb; have n0_ := Aside0.mk (below_step (by repeat (first | (with_reducible first | exact HB.out | apply below_alloc | apply pw_below_drewN | apply below_drew1) | exact HB.out)) hb); have n1_ := Aside0.mk (hbox); have n2_ := Aside0.mk ((by rw [hg]; exact (below_size (by repeat (first | (with_reducible first | exact HB.out | apply below_alloc | apply pw_below_drewN | apply below_drew1) | exact HB.out))) : w.heap.size ≤ gb236)); have n3_ := Aside0.mk ((by rw [hg]; exact (below_size (by repeat (first | (with_reducible first | exact HB.out | apply below_alloc | apply pw_below_drewN | apply below_drew1) | exact HB.out))) : w.heap.size ≤ gb236)); clear HB; have HB := n0_; have BK236 := n1_; have GW236 := n2_; have GE236 := n3_; clear n0_ n1_ n2_ n3_; clear hb hbox hg; have hcz7_0 : w6.cell? ⟨gb236, 0, none⟩ = some (.slice A0_0 l0_0.length c0_0) := (blk_cell BK236.out 0).trans rfl; have hcz7_1 : w6.cell? ⟨gb236, 1, none⟩ = some (.int .i64 a0_1) := (blk_cell BK236.out 1).trans rfl; have hcz7_2 : w6.cell? ⟨gb236, 2, none⟩ = some (.slice A0_2 l0_2.length c0_2) := (blk_cell BK236.out 2).trans rfl; have hfz7_0 := blk_frozen BK236.out 0; have hfz7_1 := blk_frozen BK236.out 1; have hfz7_2 := blk_frozen BK236.out 2) | ((with_reducible refine gate_callee (f := 14) rfl ?_); refine goesL_ (some 16) rfl rfl Try.func14 (by kernel_rfl) rfl #[.agg #[.slice A0_0 l0_0.length c0_0, .int .i64 a0_1, .slice A0_2 l0_2.length c0_2]] rfl (by (try simp only [List.map_toArray, List.map_cons, List.map_nil]); first | done | rfl | (simp only [List.length_drop, List.length_take]; rfl)) ?_; (with_reducible refine (turnstilelaw01_GraphSize.calls k _ _ l0_0 a0_1 _ _ l0_2 t237 _ ?side1 ?side2 ?side3 ?side4 A3.out).mono ?_); (case side1 => repeat (first | exact (Kd.C_below HR0_0.out HB.out) | (with_reducible refine Kd.C_alloc ?_ _) | (with_reducible refine Kd.C_drewN ?_ _) | (with_reducible refine Kd.C_drew ?_))); (case side2 => exact HC0_0.out); (case side3 => repeat (first | exact (Kd.C_below HR0_2.out HB.out) | (with_reducible refine Kd.C_alloc ?_ _) | (with_reducible refine Kd.C_drewN ?_ _) | (with_reducible refine Kd.C_drew ?_))); (case side4 => exact HC0_2.out); rintro e w8 ⟨rfl, hb⟩; refine ⟨_, rfl, ?_⟩; have n0_ := Aside0.mk (blk_below (g := gb236) (o := .cells #[.slice A0_0 l0_0.length c0_0, .int .i64 a0_1, .slice A0_2 l0_2.length c0_2] 25 (0, 0)) (by (with_reducible repeat (first | refine blk_drewN ?_ _ | refine blk_drew ?_ | refine blk_alloc ?_ _)); exact BK236.out) hb); have n1_ := Aside0.mk (below_step (by repeat (first | (with_reducible first | exact HB.out | apply below_alloc | apply pw_below_drewN | apply below_drew1 | refine below_set ?_ GE236.out) | exact HB.out)) hb); clear BK236; clear HB; have BK236 := n0_; have HB := n1_; clear n0_ n1_; (try clear hb); (try clear hb2); (try clear hk); (try clear hi)) | ((with_reducible refine gate_dst (N := 17) rfl ?_); (try (refine gate_guard (by rfl) ?_; dsimp only)); refine Kd.R_lit (Kd.int .i64) _ 3 ?hg (N := 17) ?hd (xs := ([t237] : List Int)) (inner := [.int .i64 t237]) (ok := fun _ => True) (okp := fun _ => True) ?hr ?hp (fun _ hk => hk) trivial (Below.refl _ _) (Nat.le_refl _) (by simp) ?_; (case hd => rfl); (case hg => rfl); (case hr => first | (go_simp; done) | (go_simp; rfl)); (case hp => exact (Reps.one (show Kd.M (Kd.int .i64) _ _ _ t237 [.int .i64 t237] from rfl) (Reps.none _ _))); intro v239 w9 ho10 hb hg_ hnew_; clear hg_ hnew_; (first | rw [← Ny238.out] at ho10 | (simp only [Int.reduceToNat] at ho10; rw [← Ny238.out] at ho10)); have n0_ := Aside0.mk (Kd.R_lower ho10 (below_size (by repeat (first | (with_reducible first | exact HB.out | apply below_alloc | apply pw_below_drewN | apply below_drew1 | refine below_set ?_ GE236.out) | exact HB.out)))); have n1_ := Aside0.mk (blk_below (g := gb236) (o := .cells #[.slice A0_0 l0_0.length c0_0, .int .i64 a0_1, .slice A0_2 l0_2.length c0_2] 25 (0, 0)) (by (with_reducible repeat (first | refine blk_drewN ?_ _ | refine blk_drew ?_ | refine blk_alloc ?_ _)); exact BK236.out) hb); have n2_ := Aside0.mk (below_step (by repeat (first | (with_reducible first | exact HB.out | apply below_alloc | apply pw_below_drewN | apply below_drew1 | refine below_set ?_ GE236.out) | exact HB.out)) hb); clear BK236; clear HB; have HO240 := n0_; have BK236 := n1_; have HB := n2_; clear n0_ n1_ n2_; clear hb ho10; obtain ⟨Ao11, co11, eo11⟩ := Kd.R_slice HO240.out; subst eo11) | ((with_reducible refine gate_callee (f := 13) rfl ?_); refine goesL_ (some 18) rfl rfl Try.func13 (by kernel_rfl) rfl #[.slice Ao11 y238.length co11] rfl (by (try simp only [List.map_toArray, List.map_cons, List.map_nil]); first | done | rfl | (simp only [List.length_drop, List.length_take]; rfl)) ?_; (with_reducible refine (turnstilelaw01_Beyond.calls k _ _ y238 true _ ?side1 ?side2 A4.out).mono ?_); (case side1 => repeat (first | exact (Kd.R_reads' HO240.out).2.2 | (with_reducible refine Kd.C_alloc ?_ _) | (with_reducible refine Kd.C_drewN ?_ _) | (with_reducible refine Kd.C_drew ?_))); (case side2 => exact (Kd.R_reads' HO240.out).2.1); rintro e w' ⟨rfl, ⟨nd, rfl⟩⟩; refine ⟨_, rfl, ?_⟩))
    go_ret
    exact ⟨by first | rfl | (simp [errW_none, errW_some] <;> rfl) | (simp [*, errW_none, errW_some] <;> rfl), by repeat (first | (with_reducible first | exact HB.out | apply below_alloc | apply pw_below_drewN | apply below_drew1 | refine below_set ?_ GE236.out) | exact HB.out)⟩
  · replace c5 := Bool.eq_false_iff.mpr c5
    subst c5
    have H1 : ((live_In.f l0_0 a0_1 l0_2).bind fun bt242 => (if bt242.2 = 0 then (if a1 < 0 then (turnstilelaw13_LiveSteps.j0 k a1 bt242.1 true l0_0 a0_1 l0_2) else (turnstilelaw13_LiveSteps.j0 k a1 bt242.1 (decide (a1 ≥ (l0_2.length : Int))) l0_0 a0_1 l0_2)) else (turnstilelaw13_LiveSteps.j0 k a1 bt242.1 true l0_0 a0_1 l0_2))) = some r := by rw [if_neg (show ¬ (false = true) by decide)] at H; exact H
    clear H
    have H := H1
    clear H1
    replace H := Option.bind_eq_some_iff.mp H
    obtain ⟨⟨t242, t245⟩, A120, H⟩ := H
    replace H : (if t245 = 0 then (if a1 < 0 then (turnstilelaw13_LiveSteps.j0 k a1 t242 true l0_0 a0_1 l0_2) else (turnstilelaw13_LiveSteps.j0 k a1 t242 (decide (a1 ≥ (l0_2.length : Int))) l0_0 a0_1 l0_2)) else (turnstilelaw13_LiveSteps.j0 k a1 t242 true l0_0 a0_1 l0_2)) = some r := H
    have A12 := Aside0.mk A120
    clear A120
    have HC13 := Aside0.mk H
    clear H
    go_enter Try.func3, Try.ntmps3
    go_upto_region 4 with (first | ((with_reducible refine gate_dst (N := 2) rfl ?_); (try (refine gate_guard (by rfl) ?_; dsimp only)); refine box_event ?hg (N := 2) ?hd (cs := #[.slice A0_0 l0_0.length c0_0, .int .i64 a0_1, .slice A0_2 l0_2.length c0_2]) (t := 25) ?hr ?_; (case hd => rfl); (case hg => rfl); (case hr => first | (go_simp; done) | (go_simp; rfl)); intro gb236 hg w14 hbox hb; have n0_ := Aside0.mk (below_step (by repeat (first | (with_reducible first | exact HB.out | apply below_alloc | apply pw_below_drewN | apply below_drew1) | exact HB.out)) hb); have n1_ := Aside0.mk (hbox); have n2_ := Aside0.mk ((by rw [hg]; exact (below_size (by repeat (first | (with_reducible first | exact HB.out | apply below_alloc | apply pw_below_drewN | apply below_drew1) | exact HB.out))) : w.heap.size ≤ gb236)); have n3_ := Aside0.mk ((by rw [hg]; exact (below_size (by repeat (first | (with_reducible first | exact HB.out | apply below_alloc | apply pw_below_drewN | apply below_drew1) | exact HB.out))) : w.heap.size ≤ gb236)); clear HB; have HB := n0_; have BK236 := n1_; have GW236 := n2_; have GE236 := n3_; clear n0_ n1_ n2_ n3_; clear hb hbox hg; have hcz15_0 : w14.cell? ⟨gb236, 0, none⟩ = some (.slice A0_0 l0_0.length c0_0) := (blk_cell BK236.out 0).trans rfl; have hcz15_1 : w14.cell? ⟨gb236, 1, none⟩ = some (.int .i64 a0_1) := (blk_cell BK236.out 1).trans rfl; have hcz15_2 : w14.cell? ⟨gb236, 2, none⟩ = some (.slice A0_2 l0_2.length c0_2) := (blk_cell BK236.out 2).trans rfl; have hfz15_0 := blk_frozen BK236.out 0; have hfz15_1 := blk_frozen BK236.out 1; have hfz15_2 := blk_frozen BK236.out 2) | ((with_reducible refine gate_callee (f := 14) rfl ?_); refine goesL_ (some 16) rfl rfl Try.func14 (by kernel_rfl) rfl #[.agg #[.slice A0_0 l0_0.length c0_0, .int .i64 a0_1, .slice A0_2 l0_2.length c0_2]] rfl (by (try simp only [List.map_toArray, List.map_cons, List.map_nil]); first | done | rfl | (simp only [List.length_drop, List.length_take]; rfl)) ?_; (with_reducible refine (turnstilelaw01_GraphSize.calls k _ _ l0_0 a0_1 _ _ l0_2 t237 _ ?side1 ?side2 ?side3 ?side4 A3.out).mono ?_); (case side1 => repeat (first | exact (Kd.C_below HR0_0.out HB.out) | (with_reducible refine Kd.C_alloc ?_ _) | (with_reducible refine Kd.C_drewN ?_ _) | (with_reducible refine Kd.C_drew ?_))); (case side2 => exact HC0_0.out); (case side3 => repeat (first | exact (Kd.C_below HR0_2.out HB.out) | (with_reducible refine Kd.C_alloc ?_ _) | (with_reducible refine Kd.C_drewN ?_ _) | (with_reducible refine Kd.C_drew ?_))); (case side4 => exact HC0_2.out); rintro e w16 ⟨rfl, hb⟩; refine ⟨_, rfl, ?_⟩; have n0_ := Aside0.mk (blk_below (g := gb236) (o := .cells #[.slice A0_0 l0_0.length c0_0, .int .i64 a0_1, .slice A0_2 l0_2.length c0_2] 25 (0, 0)) (by (with_reducible repeat (first | refine blk_drewN ?_ _ | refine blk_drew ?_ | refine blk_alloc ?_ _)); exact BK236.out) hb); have n1_ := Aside0.mk (below_step (by repeat (first | (with_reducible first | exact HB.out | apply below_alloc | apply pw_below_drewN | apply below_drew1 | refine below_set ?_ GE236.out) | exact HB.out)) hb); clear BK236; clear HB; have BK236 := n0_; have HB := n1_; clear n0_ n1_; (try clear hb); (try clear hb2); (try clear hk); (try clear hi)) | ((with_reducible refine gate_dst (N := 17) rfl ?_); (try (refine gate_guard (by rfl) ?_; dsimp only)); refine Kd.R_lit (Kd.int .i64) _ 3 ?hg (N := 17) ?hd (xs := ([t237] : List Int)) (inner := [.int .i64 t237]) (ok := fun _ => True) (okp := fun _ => True) ?hr ?hp (fun _ hk => hk) trivial (Below.refl _ _) (Nat.le_refl _) (by simp) ?_; (case hd => rfl); (case hg => rfl); (case hr => first | (go_simp; done) | (go_simp; rfl)); (case hp => exact (Reps.one (show Kd.M (Kd.int .i64) _ _ _ t237 [.int .i64 t237] from rfl) (Reps.none _ _))); intro v239 w17 ho18 hb hg_ hnew_; clear hg_ hnew_; (first | rw [← Ny238.out] at ho18 | (simp only [Int.reduceToNat] at ho18; rw [← Ny238.out] at ho18)); have n0_ := Aside0.mk (Kd.R_lower ho18 (below_size (by repeat (first | (with_reducible first | exact HB.out | apply below_alloc | apply pw_below_drewN | apply below_drew1 | refine below_set ?_ GE236.out) | exact HB.out)))); have n1_ := Aside0.mk (blk_below (g := gb236) (o := .cells #[.slice A0_0 l0_0.length c0_0, .int .i64 a0_1, .slice A0_2 l0_2.length c0_2] 25 (0, 0)) (by (with_reducible repeat (first | refine blk_drewN ?_ _ | refine blk_drew ?_ | refine blk_alloc ?_ _)); exact BK236.out) hb); have n2_ := Aside0.mk (below_step (by repeat (first | (with_reducible first | exact HB.out | apply below_alloc | apply pw_below_drewN | apply below_drew1 | refine below_set ?_ GE236.out) | exact HB.out)) hb); clear BK236; clear HB; have HO240 := n0_; have BK236 := n1_; have HB := n2_; clear n0_ n1_ n2_; clear hb ho18; obtain ⟨Ao19, co19, eo19⟩ := Kd.R_slice HO240.out; subst eo19) | ((with_reducible refine gate_callee (f := 13) rfl ?_); refine goesL_ (some 18) rfl rfl Try.func13 (by kernel_rfl) rfl #[.slice Ao19 y238.length co19] rfl (by (try simp only [List.map_toArray, List.map_cons, List.map_nil]); first | done | rfl | (simp only [List.length_drop, List.length_take]; rfl)) ?_; (with_reducible refine (turnstilelaw01_Beyond.calls k _ _ y238 false _ ?side1 ?side2 A4.out).mono ?_); (case side1 => repeat (first | exact (Kd.R_reads' HO240.out).2.2 | (with_reducible refine Kd.C_alloc ?_ _) | (with_reducible refine Kd.C_drewN ?_ _) | (with_reducible refine Kd.C_drew ?_))); (case side2 => exact (Kd.R_reads' HO240.out).2.1); rintro e w' ⟨rfl, ⟨nd, rfl⟩⟩; refine ⟨_, rfl, ?_⟩; have hcz20_0 : w17.cell? ⟨gb236, 0, none⟩ = some (.slice A0_0 l0_0.length c0_0) := (blk_cell BK236.out 0).trans rfl; have hcz20_1 : w17.cell? ⟨gb236, 1, none⟩ = some (.int .i64 a0_1) := (blk_cell BK236.out 1).trans rfl; have hcz20_2 : w17.cell? ⟨gb236, 2, none⟩ = some (.slice A0_2 l0_2.length c0_2) := (blk_cell BK236.out 2).trans rfl; have hfz20_0 := blk_frozen BK236.out 0; have hfz20_1 := blk_frozen BK236.out 1; have hfz20_2 := blk_frozen BK236.out 2) | ((with_reducible refine gate_callee (f := 15) rfl ?_); refine goesL_ (some 21) rfl rfl Try.func15 (by kernel_rfl) rfl #[.agg #[.slice A0_0 l0_0.length c0_0, .int .i64 a0_1, .slice A0_2 l0_2.length c0_2]] rfl (by (try simp only [List.map_toArray, List.map_cons, List.map_nil]); first | done | rfl | (simp only [List.length_drop, List.length_take]; rfl)) ?_; (with_reducible refine (live_In.calls _ _ l0_0 a0_1 _ _ l0_2 t242 t245 _ ?side1 ?side2 ?side3 ?side4 A12.out).mono ?_); (case side1 => repeat (first | exact (Kd.C_below HR0_0.out (by repeat (first | (with_reducible first | exact HB.out | apply below_alloc | apply pw_below_drewN | apply below_drew1 | refine below_set ?_ GE236.out) | exact HB.out))) | (with_reducible refine Kd.C_alloc ?_ _) | (with_reducible refine Kd.C_drewN ?_ _) | (with_reducible refine Kd.C_drew ?_))); (case side2 => exact HC0_0.out); (case side3 => repeat (first | exact (Kd.C_below HR0_2.out (by repeat (first | (with_reducible first | exact HB.out | apply below_alloc | apply pw_below_drewN | apply below_drew1 | refine below_set ?_ GE236.out) | exact HB.out))) | (with_reducible refine Kd.C_alloc ?_ _) | (with_reducible refine Kd.C_drewN ?_ _) | (with_reducible refine Kd.C_drew ?_))); (case side4 => exact HC0_2.out); rintro e w21 ⟨v243, rfl, ho0, hb⟩; refine ⟨_, rfl, ?_⟩; have n0_ := Aside0.mk (Kd.R_below (by (with_reducible repeat (first | apply Kd.R_alloc | apply Kd.R_drewN | apply Kd.R_drew)); exact HO240.out) hb); have n1_ := Aside0.mk (Kd.S_lower (Kd.S_new' ho0 (Kd.R_lt (by (with_reducible repeat (first | apply Kd.R_alloc | apply Kd.R_drewN | apply Kd.R_drew)); exact HO240.out))) (below_size (by repeat (first | (with_reducible first | exact HB.out | apply below_alloc | apply pw_below_drewN | apply below_drew1 | refine below_set ?_ GE236.out) | exact HB.out)))); have n2_ := Aside0.mk (blk_below (g := gb236) (o := .cells #[.slice A0_0 l0_0.length c0_0, .int .i64 a0_1, .slice A0_2 l0_2.length c0_2] 25 (0, 0)) (by (with_reducible repeat (first | refine blk_drewN ?_ _ | refine blk_drew ?_ | refine blk_alloc ?_ _)); exact BK236.out) hb); have n3_ := Aside0.mk (below_step (by repeat (first | (with_reducible first | exact HB.out | apply below_alloc | apply pw_below_drewN | apply below_drew1 | refine below_set ?_ GE236.out) | exact HB.out)) hb); clear HO240; clear BK236; clear HB; have HO240 := n0_; have HO244 := n1_; have BK236 := n2_; have HB := n3_; clear n0_ n1_ n2_ n3_; (try clear hb); (try clear hb2); (try clear hk); (try clear hi); (try clear ho0)))
    (try simp only [Act.put, List.setIfInBounds_toArray, List.set_cons_zero, List.set_cons_succ])
    go_cut [36] (fun v36 wc => ∃ (kq : Nat) (x36_12 : Bool), v36 = .bool x36_12 ∧ Aside0 (turnstilelaw13_LiveSteps.j0 kq a1 t242 x36_12 l0_0 a0_1 l0_2 = some r) ∧ Aside0 (kq ≤ k) ∧ Aside0 (Kd.S (Kd.slice 3 (Kd.int .i64)) 37 wc w.heap.size (fun _ => True) v243 t242) ∧ Aside0 (wc.heap[gb236]? = some (.cells #[(.slice A0_0 l0_0.length c0_0), .int .i64 a0_1, (.slice A0_2 l0_2.length c0_2)] 25 (0, 0))) ∧ Aside0 (Below w.heap.size w wc))
    case first =>
      have H := HC13.out
      clear HC13
      by_cases c22 : t245 = 0
      · rw [if_pos c22] at H
        have c22b0 : (t245 == 0) = true := beq_iff_eq.mpr c22
        have c22b1 : (t245 != 0) = false := bne_eq_false_iff_eq.mpr c22
        clear c22
        (first | rw [c22b0] | (simp only [i64_w, i32_w]; rw [c22b0]) | skip)
        by_cases c23 : a1 < 0
        · rw [if_pos c23] at H
          have c23b0 : decide (a1 < 0) = true := decide_eq_true c23
          clear c23
          have H' := Aside0.mk H
          clear H
          go_wp2
          go_meet
          case rel => exact ⟨_, (true), (by first | rfl | (simp; done) | (simp [*]; done)), H', ⟨by first | omega | exact Nat.le_refl _⟩, ⟨by (with_reducible repeat (first | apply Kd.S_alloc | apply Kd.S_drewN | apply Kd.S_drew)); exact Kd.S_mono HO244.out (fun _ hk => trivial)⟩, ⟨by (with_reducible repeat (first | refine blk_drewN ?_ _ | refine blk_drew ?_ | refine blk_alloc ?_ _)); exact BK236.out⟩, ⟨by repeat (first | (with_reducible first | exact HB.out | apply below_alloc | apply pw_below_drewN | apply below_drew1 | refine below_set ?_ GE236.out) | exact HB.out)⟩⟩
        · rw [if_neg c23] at H
          have c23b0 : decide (a1 < 0) = false := decide_eq_false c23
          clear c23
          have H' := Aside0.mk H
          clear H
          have hcz24_0 : w21.cell? ⟨gb236, 0, none⟩ = some (.slice A0_0 l0_0.length c0_0) := (blk_cell BK236.out 0).trans rfl
          have hcz24_1 : w21.cell? ⟨gb236, 1, none⟩ = some (.int .i64 a0_1) := (blk_cell BK236.out 1).trans rfl
          have hcz24_2 : w21.cell? ⟨gb236, 2, none⟩ = some (.slice A0_2 l0_2.length c0_2) := (blk_cell BK236.out 2).trans rfl
          have hfz24_0 := blk_frozen BK236.out 0
          have hfz24_1 := blk_frozen BK236.out 1
          have hfz24_2 := blk_frozen BK236.out 2
          go_wp2
          go_meet
          case rel => exact ⟨_, (decide (a1 ≥ (l0_2.length : Int))), (by first | rfl | (simp; done) | (simp [*]; done)), H', ⟨by first | omega | exact Nat.le_refl _⟩, ⟨by (with_reducible repeat (first | apply Kd.S_alloc | apply Kd.S_drewN | apply Kd.S_drew)); exact Kd.S_mono HO244.out (fun _ hk => trivial)⟩, ⟨by (with_reducible repeat (first | refine blk_drewN ?_ _ | refine blk_drew ?_ | refine blk_alloc ?_ _)); exact BK236.out⟩, ⟨by repeat (first | (with_reducible first | exact HB.out | apply below_alloc | apply pw_below_drewN | apply below_drew1 | refine below_set ?_ GE236.out) | exact HB.out)⟩⟩
      · rw [if_neg c22] at H
        have c22b0 : (t245 == 0) = false := beq_eq_false_iff_ne.mpr c22
        have c22b1 : (t245 != 0) = true := bne_iff_ne.mpr c22
        (first | rw [c22b0] | (simp only [i64_w, i32_w]; rw [c22b0]) | skip)
        have H' := Aside0.mk H
        clear H
        go_wp2
        go_meet
        case rel => exact ⟨_, (true), (by first | rfl | (simp; done) | (simp [*]; done)), H', ⟨by first | omega | exact Nat.le_refl _⟩, ⟨by (with_reducible repeat (first | apply Kd.S_alloc | apply Kd.S_drewN | apply Kd.S_drew)); exact Kd.S_mono HO244.out (fun _ hk => trivial)⟩, ⟨by (with_reducible repeat (first | refine blk_drewN ?_ _ | refine blk_drew ?_ | refine blk_alloc ?_ _)); exact BK236.out⟩, ⟨by repeat (first | (with_reducible first | exact HB.out | apply below_alloc | apply pw_below_drewN | apply below_drew1 | refine below_set ?_ GE236.out) | exact HB.out)⟩⟩
    case rest =>
      clear HC13
      try clear c1
      try clear c2
      try clear p2
      try clear c3
      try clear c5
      try clear c13
      try clear c14
      try clear c15
      try clear c22
      try clear c22b0
      try clear c22b1
      try clear c23
      try clear c23b0
      try clear hcz15_0
      try clear hcz15_1
      try clear hcz15_2
      try clear hcz20_0
      try clear hcz20_1
      try clear hcz20_2
      try clear hcz24_0
      try clear hcz24_1
      try clear hcz24_2
      try clear hcz7_0
      try clear hcz7_1
      try clear hcz7_2
      try clear hfz15_0
      try clear hfz15_1
      try clear hfz15_2
      try clear hfz20_0
      try clear hfz20_1
      try clear hfz20_2
      try clear hfz24_0
      try clear hfz24_1
      try clear hfz24_2
      try clear hfz7_0
      try clear hfz7_1
      try clear hfz7_2
      obtain ⟨kq, x36_12, rfl, HA, HJ12, HO_5, BK236, HB⟩ := hcut
      cases kq with
      | zero => exact absurd HA.out (by simp [turnstilelaw13_LiveSteps.j0])
      | succ kj12 =>
        have H := HA.out
        clear HA
        simp only [turnstilelaw13_LiveSteps.j0] at H
        by_cases c25 : x36_12 = true
        · subst c25
          have H1 : ((turnstilelaw13_alive.f kj12).bind fun t246 => (some t246)) = some r := by rw [if_pos rfl] at H; exact H
          clear H
          have H := H1
          clear H1
          replace H := Option.bind_eq_some_iff.mp H
          obtain ⟨t246, A260, H⟩ := H
          replace H : (some t246) = some r := H
          have A26 := Aside0.mk A260
          clear A260
          obtain rfl := Option.some.inj H
          go_wp2_with (first | ((with_reducible refine gate_callee (f := 16) rfl ?_); refine goesL_ (some 37) rfl rfl Try.func16 (by kernel_rfl) rfl #[] rfl (by (try simp only [List.map_toArray, List.map_cons, List.map_nil]); first | done | rfl | (simp only [List.length_drop, List.length_take]; rfl)) ?_; (with_reducible refine (turnstilelaw13_alive.calls kj12  t246 _ A26.out).mono ?_); rintro e w27 ⟨rfl, hb⟩; refine ⟨_, rfl, ?_⟩; have n0_ := Aside0.mk (Kd.S_below (by (with_reducible repeat (first | apply Kd.S_alloc | apply Kd.S_drewN | apply Kd.S_drew)); exact HO_5.out) hb); have n1_ := Aside0.mk (blk_below (g := gb236) (o := .cells #[.slice A0_0 l0_0.length c0_0, .int .i64 a0_1, .slice A0_2 l0_2.length c0_2] 25 (0, 0)) (by (with_reducible repeat (first | refine blk_drewN ?_ _ | refine blk_drew ?_ | refine blk_alloc ?_ _)); exact BK236.out) hb); have n2_ := Aside0.mk (below_step (by repeat (first | (with_reducible first | exact HB.out | apply below_alloc | apply pw_below_drewN | apply below_drew1 | refine below_set ?_ GE236.out) | exact HB.out)) hb); clear HO_5; clear BK236; clear HB; have HO_5 := n0_; have BK236 := n1_; have HB := n2_; clear n0_ n1_ n2_; (try clear hb); (try clear hb2); (try clear hk); (try clear hi)))
          go_ret
          exact ⟨by first | rfl | (simp [errW_none, errW_some] <;> rfl) | (simp [*, errW_none, errW_some] <;> rfl), by repeat (first | (with_reducible first | exact HB.out | apply below_alloc | apply pw_below_drewN | apply below_drew1 | refine below_set ?_ GE236.out) | exact HB.out)⟩
        · replace c25 := Bool.eq_false_iff.mpr c25
          subst c25
          have H1 : (if (t242.length : Int) = (l0_2.length : Int) then (if 0 ≤ a1 then (if a1 < (l0_2.length : Int) then ((live_At.f l0_0 a0_1 l0_2 a1 (((rd_T36 l0_2 a1).f0).length : Int)).bind fun bt248 => (if bt248.2 = 0 then (if ((rd_T36 l0_2 a1).f1) = 3 then (turnstilelaw13_LiveSteps.j1 kj12 a1 t242 ((rd_T36 l0_2 a1).f0) bt248.1 (decide ((bt248.1.length : Int) > 0)) l0_0 a0_1 l0_2) else (turnstilelaw13_LiveSteps.j1 kj12 a1 t242 ((rd_T36 l0_2 a1).f0) bt248.1 false l0_0 a0_1 l0_2)) else (turnstilelaw13_LiveSteps.j1 kj12 a1 t242 ((rd_T36 l0_2 a1).f0) bt248.1 true l0_0 a0_1 l0_2))) else (none)) else (none)) else (some false)) = some r := by rw [if_neg (show ¬ (false = true) by decide)] at H; exact H
          clear H
          have H := H1
          clear H1
          by_cases c28 : (t242.length : Int) = (l0_2.length : Int)
          · rw [if_pos c28] at H
            have c28b0 : ((t242.length : Int) == (l0_2.length : Int)) = true := beq_iff_eq.mpr c28
            have c28b1 : ((t242.length : Int) != (l0_2.length : Int)) = false := bne_eq_false_iff_eq.mpr c28
            have c28b2 : (t242.length == l0_2.length) = true := by first | simpa using c28 | (simp at c28 ⊢; omega)
            clear c28
            by_cases c29 : 0 ≤ a1
            · rw [if_pos c29] at H
              have c29b0 : decide (0 ≤ a1) = true := decide_eq_true c29
              clear c29
              by_cases c30 : a1 < (l0_2.length : Int)
              · rw [if_pos c30] at H
                have c30b0 : decide (a1 < (l0_2.length : Int)) = true := decide_eq_true c30
                clear c30
                replace H := Option.bind_eq_some_iff.mp H
                obtain ⟨⟨t248, t251⟩, A310, H⟩ := H
                replace H : (if t251 = 0 then (if ((rd_T36 l0_2 a1).f1) = 3 then (turnstilelaw13_LiveSteps.j1 kj12 a1 t242 ((rd_T36 l0_2 a1).f0) t248 (decide ((t248.length : Int) > 0)) l0_0 a0_1 l0_2) else (turnstilelaw13_LiveSteps.j1 kj12 a1 t242 ((rd_T36 l0_2 a1).f0) t248 false l0_0 a0_1 l0_2)) else (turnstilelaw13_LiveSteps.j1 kj12 a1 t242 ((rd_T36 l0_2 a1).f0) t248 true l0_0 a0_1 l0_2)) = some r := H
                have A31 := Aside0.mk A310
                clear A310
                have HC32 := Aside0.mk H
                clear H
                obtain ⟨Ao33, co33, eo33⟩ := Kd.S_slice HO_5.out
                subst eo33
                have hcz34_0 : wc.cell? ⟨gb236, 0, none⟩ = some (.slice A0_0 l0_0.length c0_0) := (blk_cell BK236.out 0).trans rfl
                have hcz34_1 : wc.cell? ⟨gb236, 1, none⟩ = some (.int .i64 a0_1) := (blk_cell BK236.out 1).trans rfl
                have hcz34_2 : wc.cell? ⟨gb236, 2, none⟩ = some (.slice A0_2 l0_2.length c0_2) := (blk_cell BK236.out 2).trans rfl
                have hfz34_0 := blk_frozen BK236.out 0
                have hfz34_1 := blk_frozen BK236.out 1
                have hfz34_2 := blk_frozen BK236.out 2
                have p247 : 0 ≤ (a1 : Int) := of_decide_eq_true (by first | (with_reducible assumption) | assumption)
                have q247 : a1 < (l0_2.length : Int) := of_decide_eq_true (by first | (with_reducible assumption) | assumption)
                obtain ⟨ad247, A247_0, c247_0, e247, hx247_0, hx247_1, hx247_2, hx247_3, hx247_4, hl247_0, hi247_0⟩ := at_T36 HR0_2.out a1 p247 q247
                cases e247
                replace hx247_0 := (HB.out.cell (World.block_lt_of_cell? w _ hx247_0)).trans hx247_0
                replace hx247_1 := (HB.out.cell (World.block_lt_of_cell? w _ hx247_1)).trans hx247_1
                replace hx247_2 := (HB.out.cell (World.block_lt_of_cell? w _ hx247_2)).trans hx247_2
                replace hx247_3 := (HB.out.cell (World.block_lt_of_cell? w _ hx247_3)).trans hx247_3
                replace hx247_4 := (HB.out.cell (World.block_lt_of_cell? w _ hx247_4)).trans hx247_4
                have HR247_0 := Aside0.mk hi247_0
                have HC247_0 := Aside0.mk hl247_0
                clear hi247_0 hl247_0
                replace p247 := eq_true p247
                replace q247 := eq_true q247
                go_upto_region 10 with (first | ((with_reducible refine gate_callee (f := 17) rfl ?_); refine goesL_ (some 56) rfl rfl Try.func17 (by kernel_rfl) rfl #[.agg #[.slice A0_0 l0_0.length c0_0, .int .i64 a0_1, .slice (some ad247) l0_2.length c0_2], .agg #[.int .i64 a1, .int .i64 (((rd_T36 l0_2 a1).f0).length : Int)]] rfl (by (try simp only [List.map_toArray, List.map_cons, List.map_nil]); first | done | rfl | (simp only [List.length_drop, List.length_take]; rfl)) ?_; (with_reducible refine (live_At.calls _ _ l0_0 a0_1 _ _ l0_2 a1 (((rd_T36 l0_2 a1).f0).length : Int) t248 t251 _ ?side1 ?side2 ?side3 ?side4 A31.out).mono ?_); (case side1 => repeat (first | exact (Kd.C_below HR0_0.out HB.out) | (with_reducible refine Kd.C_alloc ?_ _) | (with_reducible refine Kd.C_drewN ?_ _) | (with_reducible refine Kd.C_drew ?_))); (case side2 => exact HC0_0.out); (case side3 => repeat (first | exact (Kd.C_below HR0_2.out HB.out) | (with_reducible refine Kd.C_alloc ?_ _) | (with_reducible refine Kd.C_drewN ?_ _) | (with_reducible refine Kd.C_drew ?_))); (case side4 => exact HC0_2.out); rintro e w35 ⟨v249, rfl, ho0, hb⟩; refine ⟨_, rfl, ?_⟩; have n0_ := Aside0.mk (Kd.S_elder' (by (with_reducible repeat (first | apply Kd.S_alloc | apply Kd.S_drewN | apply Kd.S_drew)); exact HO_5.out) (Kd.R_base ho0) hb); have n1_ := Aside0.mk (Kd.R_lower ho0 (below_size (by repeat (first | (with_reducible first | exact HB.out | apply below_alloc | apply pw_below_drewN | apply below_drew1 | refine below_set ?_ GE236.out) | exact HB.out)))); have n2_ := Aside0.mk (blk_below (g := gb236) (o := .cells #[.slice A0_0 l0_0.length c0_0, .int .i64 a0_1, .slice (some ad247) l0_2.length c0_2] 25 (0, 0)) (by (with_reducible repeat (first | refine blk_drewN ?_ _ | refine blk_drew ?_ | refine blk_alloc ?_ _)); exact BK236.out) hb); have n3_ := Aside0.mk (below_step (by repeat (first | (with_reducible first | exact HB.out | apply below_alloc | apply pw_below_drewN | apply below_drew1 | refine below_set ?_ GE236.out) | exact HB.out)) hb); clear HO_5; clear BK236; clear HB; have HO_5 := n0_; have HO250 := n1_; have BK236 := n2_; have HB := n3_; clear n0_ n1_ n2_ n3_; (try clear hb); (try clear hb2); (try clear hk); (try clear hi); (try clear ho0)))
                (try simp only [Act.put, List.setIfInBounds_toArray, List.set_cons_zero, List.set_cons_succ])
                go_cut [74] (fun v74 wc => ∃ (kq : Nat) (x74_31 : Bool), v74 = .bool x74_31 ∧ Aside0 (turnstilelaw13_LiveSteps.j1 kq a1 t242 ((rd_T36 l0_2 a1).f0) t248 x74_31 l0_0 a0_1 l0_2 = some r) ∧ Aside0 (kq ≤ kj12) ∧ Aside0 (Kd.S (Kd.slice 3 (Kd.int .i64)) 37 wc w.heap.size (fun k_ => some k_ ≠ (v249 : Value).ownBlock) (.slice Ao33 t242.length co33) t242) ∧ Aside0 (Kd.R (Kd.int .i64) 3 wc w.heap.size (fun _ => True) v249 t248) ∧ Aside0 (wc.heap[gb236]? = some (.cells #[(.slice A0_0 l0_0.length c0_0), .int .i64 a0_1, (.slice (some ad247) l0_2.length c0_2)] 25 (0, 0))) ∧ Aside0 (Below w.heap.size w wc))
                case first =>
                  have H := HC32.out
                  clear HC32
                  by_cases c36 : t251 = 0
                  · rw [if_pos c36] at H
                    have c36b0 : (t251 == 0) = true := beq_iff_eq.mpr c36
                    have c36b1 : (t251 != 0) = false := bne_eq_false_iff_eq.mpr c36
                    clear c36
                    (first | rw [c36b0] | (simp only [i64_w, i32_w]; rw [c36b0]) | skip)
                    by_cases c37 : ((rd_T36 l0_2 a1).f1) = 3
                    · rw [if_pos c37] at H
                      have c37b0 : (((rd_T36 l0_2 a1).f1) == 3) = true := beq_iff_eq.mpr c37
                      have c37b1 : (((rd_T36 l0_2 a1).f1) != 3) = false := bne_eq_false_iff_eq.mpr c37
                      clear c37
                      have H' := Aside0.mk H
                      clear H
                      have hcz38_0 : w35.cell? ⟨gb236, 0, none⟩ = some (.slice A0_0 l0_0.length c0_0) := (blk_cell BK236.out 0).trans rfl
                      have hcz38_1 : w35.cell? ⟨gb236, 1, none⟩ = some (.int .i64 a0_1) := (blk_cell BK236.out 1).trans rfl
                      have hcz38_2 : w35.cell? ⟨gb236, 2, none⟩ = some (.slice (some ad247) l0_2.length c0_2) := (blk_cell BK236.out 2).trans rfl
                      have hfz38_0 := blk_frozen BK236.out 0
                      have hfz38_1 := blk_frozen BK236.out 1
                      have hfz38_2 := blk_frozen BK236.out 2
                      have p252 : 0 ≤ (a1 : Int) := of_decide_eq_true (by first | (with_reducible assumption) | assumption)
                      have q252 : a1 < (l0_2.length : Int) := of_decide_eq_true (by first | (with_reducible assumption) | assumption)
                      obtain ⟨ad252, A252_0, c252_0, e252, hx252_0, hx252_1, hx252_2, hx252_3, hx252_4, hl252_0, hi252_0⟩ := at_T36 HR0_2.out a1 p252 q252
                      obtain rfl : ad247 = ad252 := (by injection e252)
                      replace hx252_0 := (HB.out.cell (World.block_lt_of_cell? w _ hx252_0)).trans hx252_0
                      replace hx252_1 := (HB.out.cell (World.block_lt_of_cell? w _ hx252_1)).trans hx252_1
                      replace hx252_2 := (HB.out.cell (World.block_lt_of_cell? w _ hx252_2)).trans hx252_2
                      replace hx252_3 := (HB.out.cell (World.block_lt_of_cell? w _ hx252_3)).trans hx252_3
                      replace hx252_4 := (HB.out.cell (World.block_lt_of_cell? w _ hx252_4)).trans hx252_4
                      have HR252_0 := Aside0.mk hi252_0
                      have HC252_0 := Aside0.mk hl252_0
                      clear hi252_0 hl252_0
                      replace p252 := eq_true p252
                      replace q252 := eq_true q252
                      obtain ⟨Ao39, co39, eo39⟩ := Kd.R_slice HO250.out
                      subst eo39
                      go_wp2
                      go_meet
                      case rel => exact ⟨_, (decide ((t248.length : Int) > 0)), (by first | rfl | (simp; done) | (simp [*]; done)), H', ⟨by have := HJ12.out; first | omega | exact Nat.le_refl _⟩, ⟨by (with_reducible repeat (first | apply Kd.S_alloc | apply Kd.S_drewN | apply Kd.S_drew)); exact Kd.S_mono HO_5.out (fun _ hk => hk.2)⟩, ⟨by (with_reducible repeat (first | apply Kd.R_alloc | apply Kd.R_drewN | apply Kd.R_drew)); exact HO250.out⟩, ⟨by (with_reducible repeat (first | refine blk_drewN ?_ _ | refine blk_drew ?_ | refine blk_alloc ?_ _)); exact BK236.out⟩, ⟨by repeat (first | (with_reducible first | exact HB.out | apply below_alloc | apply pw_below_drewN | apply below_drew1 | refine below_set ?_ GE236.out) | exact HB.out)⟩⟩
                    · rw [if_neg c37] at H
                      have c37b0 : (((rd_T36 l0_2 a1).f1) == 3) = false := beq_eq_false_iff_ne.mpr c37
                      have c37b1 : (((rd_T36 l0_2 a1).f1) != 3) = true := bne_iff_ne.mpr c37
                      have H' := Aside0.mk H
                      clear H
                      have hcz40_0 : w35.cell? ⟨gb236, 0, none⟩ = some (.slice A0_0 l0_0.length c0_0) := (blk_cell BK236.out 0).trans rfl
                      have hcz40_1 : w35.cell? ⟨gb236, 1, none⟩ = some (.int .i64 a0_1) := (blk_cell BK236.out 1).trans rfl
                      have hcz40_2 : w35.cell? ⟨gb236, 2, none⟩ = some (.slice (some ad247) l0_2.length c0_2) := (blk_cell BK236.out 2).trans rfl
                      have hfz40_0 := blk_frozen BK236.out 0
                      have hfz40_1 := blk_frozen BK236.out 1
                      have hfz40_2 := blk_frozen BK236.out 2
                      have p252 : 0 ≤ (a1 : Int) := of_decide_eq_true (by first | (with_reducible assumption) | assumption)
                      have q252 : a1 < (l0_2.length : Int) := of_decide_eq_true (by first | (with_reducible assumption) | assumption)
                      obtain ⟨ad252, A252_0, c252_0, e252, hx252_0, hx252_1, hx252_2, hx252_3, hx252_4, hl252_0, hi252_0⟩ := at_T36 HR0_2.out a1 p252 q252
                      obtain rfl : ad247 = ad252 := (by injection e252)
                      replace hx252_0 := (HB.out.cell (World.block_lt_of_cell? w _ hx252_0)).trans hx252_0
                      replace hx252_1 := (HB.out.cell (World.block_lt_of_cell? w _ hx252_1)).trans hx252_1
                      replace hx252_2 := (HB.out.cell (World.block_lt_of_cell? w _ hx252_2)).trans hx252_2
                      replace hx252_3 := (HB.out.cell (World.block_lt_of_cell? w _ hx252_3)).trans hx252_3
                      replace hx252_4 := (HB.out.cell (World.block_lt_of_cell? w _ hx252_4)).trans hx252_4
                      have HR252_0 := Aside0.mk hi252_0
                      have HC252_0 := Aside0.mk hl252_0
                      clear hi252_0 hl252_0
                      replace p252 := eq_true p252
                      replace q252 := eq_true q252
                      go_wp2
                      go_meet
                      case rel => exact ⟨_, (false), (by first | rfl | (simp; done) | (simp [*]; done)), H', ⟨by have := HJ12.out; first | omega | exact Nat.le_refl _⟩, ⟨by (with_reducible repeat (first | apply Kd.S_alloc | apply Kd.S_drewN | apply Kd.S_drew)); exact Kd.S_mono HO_5.out (fun _ hk => hk.2)⟩, ⟨by (with_reducible repeat (first | apply Kd.R_alloc | apply Kd.R_drewN | apply Kd.R_drew)); exact HO250.out⟩, ⟨by (with_reducible repeat (first | refine blk_drewN ?_ _ | refine blk_drew ?_ | refine blk_alloc ?_ _)); exact BK236.out⟩, ⟨by repeat (first | (with_reducible first | exact HB.out | apply below_alloc | apply pw_below_drewN | apply below_drew1 | refine below_set ?_ GE236.out) | exact HB.out)⟩⟩
                  · rw [if_neg c36] at H
                    have c36b0 : (t251 == 0) = false := beq_eq_false_iff_ne.mpr c36
                    have c36b1 : (t251 != 0) = true := bne_iff_ne.mpr c36
                    (first | rw [c36b0] | (simp only [i64_w, i32_w]; rw [c36b0]) | skip)
                    have H' := Aside0.mk H
                    clear H
                    go_wp2
                    go_meet
                    case rel => exact ⟨_, (true), (by first | rfl | (simp; done) | (simp [*]; done)), H', ⟨by have := HJ12.out; first | omega | exact Nat.le_refl _⟩, ⟨by (with_reducible repeat (first | apply Kd.S_alloc | apply Kd.S_drewN | apply Kd.S_drew)); exact Kd.S_mono HO_5.out (fun _ hk => hk.2)⟩, ⟨by (with_reducible repeat (first | apply Kd.R_alloc | apply Kd.R_drewN | apply Kd.R_drew)); exact HO250.out⟩, ⟨by (with_reducible repeat (first | refine blk_drewN ?_ _ | refine blk_drew ?_ | refine blk_alloc ?_ _)); exact BK236.out⟩, ⟨by repeat (first | (with_reducible first | exact HB.out | apply below_alloc | apply pw_below_drewN | apply below_drew1 | refine below_set ?_ GE236.out) | exact HB.out)⟩⟩
                case rest =>
                  clear HC32
                  try clear c1
                  try clear c2
                  try clear p2
                  try clear q2
                  try clear hx2
                  try clear c3
                  try clear c5
                  try clear c13
                  try clear c14
                  try clear c15
                  try clear c16
                  try clear c17
                  try clear c22
                  try clear c22b0
                  try clear c22b1
                  try clear c23
                  try clear c23b0
                  try clear c24
                  try clear p24
                  try clear q24
                  try clear hx24
                  try clear c25
                  try clear p25
                  try clear q25
                  try clear hx25
                  try clear c28
                  try clear c28b0
                  try clear c28b1
                  try clear c28b2
                  try clear c29
                  try clear c29b0
                  try clear c30
                  try clear c30b0
                  try clear c36
                  try clear c36b0
                  try clear c36b1
                  try clear c37
                  try clear c37b0
                  try clear c37b1
                  try clear hcz15_0
                  try clear hcz15_1
                  try clear hcz15_2
                  try clear hcz20_0
                  try clear hcz20_1
                  try clear hcz20_2
                  try clear hcz24_0
                  try clear hcz24_1
                  try clear hcz24_2
                  try clear hcz34_0
                  try clear hcz34_1
                  try clear hcz34_2
                  try clear hcz38_0
                  try clear hcz38_1
                  try clear hcz38_2
                  try clear hcz40_0
                  try clear hcz40_1
                  try clear hcz40_2
                  try clear hcz7_0
                  try clear hcz7_1
                  try clear hcz7_2
                  try clear hfz15_0
                  try clear hfz15_1
                  try clear hfz15_2
                  try clear hfz20_0
                  try clear hfz20_1
                  try clear hfz20_2
                  try clear hfz24_0
                  try clear hfz24_1
                  try clear hfz24_2
                  try clear hfz34_0
                  try clear hfz34_1
                  try clear hfz34_2
                  try clear hfz38_0
                  try clear hfz38_1
                  try clear hfz38_2
                  try clear hfz40_0
                  try clear hfz40_1
                  try clear hfz40_2
                  try clear hfz7_0
                  try clear hfz7_1
                  try clear hfz7_2
                  try clear hx247_0
                  try clear hx247_1
                  try clear hx247_2
                  try clear hx247_3
                  try clear hx247_4
                  try clear hx252_0
                  try clear hx252_1
                  try clear hx252_2
                  try clear hx252_3
                  try clear hx252_4
                  try clear p2
                  try clear p247
                  try clear p252
                  try clear q247
                  try clear q252
                  obtain ⟨kq, x74_31, rfl, HA, HJ31, HO_5, HO_8, BK236, HB⟩ := hcut
                  cases kq with
                  | zero => exact absurd HA.out (by simp [turnstilelaw13_LiveSteps.j1])
                  | succ kj31 =>
                    have H := HA.out
                    clear HA
                    simp only [turnstilelaw13_LiveSteps.j1] at H
                    by_cases c41 : x74_31 = true
                    · subst c41
                      have H1 : (some false) = some r := by rw [if_pos rfl] at H; exact H
                      clear H
                      have H := H1
                      clear H1
                      obtain rfl := Option.some.inj H
                      go_wp2
                      go_ret
                      exact ⟨by first | rfl | (simp [errW_none, errW_some] <;> rfl) | (simp [*, errW_none, errW_some] <;> rfl), by repeat (first | (with_reducible first | exact HB.out | apply below_alloc | apply pw_below_drewN | apply below_drew1 | refine below_set ?_ GE236.out) | exact HB.out)⟩
                    · replace c41 := Bool.eq_false_iff.mpr c41
                      subst c41
                      have H1 : (turnstilelaw13_LiveSteps.l0 kj31 a1 t242 ((rd_T36 l0_2 a1).f0) t248 (wrap64 ((((rd_T36 l0_2 a1).f0).length : Int) - 1)) l0_0 a0_1 l0_2) = some r := by rw [if_neg (show ¬ (false = true) by decide)] at H; exact H
                      clear H
                      have H := H1
                      clear H1
                      have H' := Aside0.mk H
                      clear H
                      go_wp2
                      go_loopg [8, 9] kj31 (fun kq v8 v9 w' => ∃ (x8_3 : List Int) (x9_3 : Int), v9 = .int .i64 x9_3 ∧ Aside0 (turnstilelaw13_LiveSteps.l0 kq a1 t242 ((rd_T36 l0_2 a1).f0) x8_3 x9_3 l0_0 a0_1 l0_2 = some r) ∧ Aside0 (kq ≤ kj31) ∧ Aside0 (Kd.S (Kd.slice 3 (Kd.int .i64)) 37 w' w.heap.size (fun k_ => some k_ ≠ (v8 : Value).ownBlock) (.slice Ao33 t242.length co33) t242) ∧ Aside0 (Kd.R (Kd.int .i64) 3 w' w.heap.size (fun _ => True) v8 x8_3) ∧ Aside0 (w'.heap[gb236]? = some (.cells #[(.slice A0_0 l0_0.length c0_0), .int .i64 a0_1, (.slice (some ad247) l0_2.length c0_2)] 25 (0, 0))) ∧ Aside0 (Below w.heap.size w w'))
                      case atStart => exact ⟨(t248), (wrap64 ((((rd_T36 l0_2 a1).f0).length : Int) - 1)), (by first | rfl | (simp; done) | (simp [*]; done)), H', ⟨Nat.le_refl _⟩, ⟨by (with_reducible repeat (first | apply Kd.S_alloc | apply Kd.S_drewN | apply Kd.S_drew)); exact HO_5.out⟩, ⟨by (with_reducible repeat (first | apply Kd.R_alloc | apply Kd.R_drewN | apply Kd.R_drew)); exact HO_8.out⟩, ⟨by (with_reducible repeat (first | refine blk_drewN ?_ _ | refine blk_drew ?_ | refine blk_alloc ?_ _)); exact BK236.out⟩, ⟨by repeat (first | (with_reducible first | exact HB.out | apply below_alloc | apply pw_below_drewN | apply below_drew1 | refine below_set ?_ GE236.out) | exact HB.out)⟩⟩
                      case round =>
                        clear H'
                        try clear c1
                        try clear c2
                        try clear p2
                        try clear q2
                        try clear hx2
                        try clear c3
                        try clear c4
                        try clear c5
                        try clear p6
                        try clear c13
                        try clear c14
                        try clear c15
                        try clear c16
                        try clear c17
                        try clear c22
                        try clear c22b0
                        try clear c22b1
                        try clear c23
                        try clear c23b0
                        try clear c24
                        try clear p24
                        try clear q24
                        try clear hx24
                        try clear c25
                        try clear p25
                        try clear q25
                        try clear hx25
                        try clear c28
                        try clear c28b0
                        try clear c28b1
                        try clear c28b2
                        try clear c29
                        try clear c29b0
                        try clear c30
                        try clear c30b0
                        try clear c36
                        try clear c36b0
                        try clear c36b1
                        try clear c37
                        try clear c37b0
                        try clear c37b1
                        try clear c41
                        try clear hcz15_0
                        try clear hcz15_1
                        try clear hcz15_2
                        try clear hcz20_0
                        try clear hcz20_1
                        try clear hcz20_2
                        try clear hcz24_0
                        try clear hcz24_1
                        try clear hcz24_2
                        try clear hcz34_0
                        try clear hcz34_1
                        try clear hcz34_2
                        try clear hcz38_0
                        try clear hcz38_1
                        try clear hcz38_2
                        try clear hcz40_0
                        try clear hcz40_1
                        try clear hcz40_2
                        try clear hcz7_0
                        try clear hcz7_1
                        try clear hcz7_2
                        try clear hfz15_0
                        try clear hfz15_1
                        try clear hfz15_2
                        try clear hfz20_0
                        try clear hfz20_1
                        try clear hfz20_2
                        try clear hfz24_0
                        try clear hfz24_1
                        try clear hfz24_2
                        try clear hfz34_0
                        try clear hfz34_1
                        try clear hfz34_2
                        try clear hfz38_0
                        try clear hfz38_1
                        try clear hfz38_2
                        try clear hfz40_0
                        try clear hfz40_1
                        try clear hfz40_2
                        try clear hfz7_0
                        try clear hfz7_1
                        try clear hfz7_2
                        try clear hx247_0
                        try clear hx247_1
                        try clear hx247_2
                        try clear hx247_3
                        try clear hx247_4
                        try clear hx252_0
                        try clear hx252_1
                        try clear hx252_2
                        try clear hx252_3
                        try clear hx252_4
                        try clear p2
                        try clear p24
                        try clear p247
                        try clear p25
                        try clear p252
                        try clear q2
                        try clear q24
                        try clear q247
                        try clear q25
                        try clear q252
                        obtain ⟨x8_3, x9_3, rfl, HA, HK3, HO_5, HO_8, BK236, HB⟩ := hrel
                        cases gk with
                        | zero => exact absurd HA.out (by simp [turnstilelaw13_LiveSteps.l0])
                        | succ k3 =>
                          have H := HA.out
                          clear HA
                          simp only [turnstilelaw13_LiveSteps.l0] at H
                          by_cases c42 : x9_3 ≥ 0
                          · rw [if_pos c42] at H
                            have c42b0 : decide (0 ≤ x9_3) = true := decide_eq_true c42
                            clear c42
                            replace H := Option.bind_eq_some_iff.mp H
                            obtain ⟨⟨t256, t259⟩, A430, H⟩ := H
                            replace H : (if 0 ≤ x9_3 then (if x9_3 < (((rd_T36 l0_2 a1).f0).length : Int) then ((turnstileref09_Reads.f k3 ((rd_T46 ((rd_T36 l0_2 a1).f0) x9_3).f0) ((rd_T46 ((rd_T36 l0_2 a1).f0) x9_3).f1) ((rd_T46 ((rd_T36 l0_2 a1).f0) x9_3).f2) ((rd_T46 ((rd_T36 l0_2 a1).f0) x9_3).f3) ((rd_T46 ((rd_T36 l0_2 a1).f0) x9_3).f4) ((rd_T46 ((rd_T36 l0_2 a1).f0) x9_3).f5)).bind fun t261 => ((turnstileref09_Writes.f ((rd_T46 ((rd_T36 l0_2 a1).f0) x9_3).f0) ((rd_T46 ((rd_T36 l0_2 a1).f0) x9_3).f1) ((rd_T46 ((rd_T36 l0_2 a1).f0) x9_3).f2) ((rd_T46 ((rd_T36 l0_2 a1).f0) x9_3).f3) ((rd_T46 ((rd_T36 l0_2 a1).f0) x9_3).f4) ((rd_T46 ((rd_T36 l0_2 a1).f0) x9_3).f5)).bind fun t265 => (turnstilelaw13_LiveSteps.l1 k3 a1 t242 ((rd_T36 l0_2 a1).f0) x8_3 x9_3 t256 t259 t261 t265 0 l0_0 a0_1 l0_2))) else (none)) else (none)) = some r := H
                            have A43 := Aside0.mk A430
                            clear A430
                            by_cases c44 : 0 ≤ x9_3
                            · rw [if_pos c44] at H
                              have c44b0 : decide (0 ≤ x9_3) = true := decide_eq_true c44
                              clear c44
                              by_cases c45 : x9_3 < (((rd_T36 l0_2 a1).f0).length : Int)
                              · rw [if_pos c45] at H
                                have c45b0 : decide (x9_3 < (((rd_T36 l0_2 a1).f0).length : Int)) = true := decide_eq_true c45
                                clear c45
                                replace H := Option.bind_eq_some_iff.mp H
                                obtain ⟨t261, A460, H⟩ := H
                                replace H : ((turnstileref09_Writes.f ((rd_T46 ((rd_T36 l0_2 a1).f0) x9_3).f0) ((rd_T46 ((rd_T36 l0_2 a1).f0) x9_3).f1) ((rd_T46 ((rd_T36 l0_2 a1).f0) x9_3).f2) ((rd_T46 ((rd_T36 l0_2 a1).f0) x9_3).f3) ((rd_T46 ((rd_T36 l0_2 a1).f0) x9_3).f4) ((rd_T46 ((rd_T36 l0_2 a1).f0) x9_3).f5)).bind fun t265 => (turnstilelaw13_LiveSteps.l1 k3 a1 t242 ((rd_T36 l0_2 a1).f0) x8_3 x9_3 t256 t259 t261 t265 0 l0_0 a0_1 l0_2)) = some r := H
                                have A46 := Aside0.mk A460
                                clear A460
                                replace H := Option.bind_eq_some_iff.mp H
                                obtain ⟨t265, A470, H⟩ := H
                                replace H : (turnstilelaw13_LiveSteps.l1 k3 a1 t242 ((rd_T36 l0_2 a1).f0) x8_3 x9_3 t256 t259 t261 t265 0 l0_0 a0_1 l0_2) = some r := H
                                have A47 := Aside0.mk A470
                                clear A470
                                have H' := Aside0.mk H
                                clear H
                                have hcz48_0 : wr.cell? ⟨gb236, 0, none⟩ = some (.slice A0_0 l0_0.length c0_0) := (blk_cell BK236.out 0).trans rfl
                                have hcz48_1 : wr.cell? ⟨gb236, 1, none⟩ = some (.int .i64 a0_1) := (blk_cell BK236.out 1).trans rfl
                                have hcz48_2 : wr.cell? ⟨gb236, 2, none⟩ = some (.slice (some ad247) l0_2.length c0_2) := (blk_cell BK236.out 2).trans rfl
                                have hfz48_0 := blk_frozen BK236.out 0
                                have hfz48_1 := blk_frozen BK236.out 1
                                have hfz48_2 := blk_frozen BK236.out 2
                                try go_wp2_with (first | ((with_reducible refine gate_callee (f := 17) rfl ?_); refine goesL_ (some 87) rfl rfl Try.func17 (by kernel_rfl) rfl #[.agg #[.slice A0_0 l0_0.length c0_0, .int .i64 a0_1, .slice (some ad247) l0_2.length c0_2], .agg #[.int .i64 a1, .int .i64 x9_3]] rfl (by (try simp only [List.map_toArray, List.map_cons, List.map_nil]); first | done | rfl | (simp only [List.length_drop, List.length_take]; rfl)) ?_; (with_reducible refine (live_At.calls _ _ l0_0 a0_1 _ _ l0_2 a1 x9_3 t256 t259 _ ?side1 ?side2 ?side3 ?side4 A43.out).mono ?_); (case side1 => repeat (first | exact (Kd.C_below HR0_0.out HB.out) | (with_reducible refine Kd.C_alloc ?_ _) | (with_reducible refine Kd.C_drewN ?_ _) | (with_reducible refine Kd.C_drew ?_))); (case side2 => exact HC0_0.out); (case side3 => repeat (first | exact (Kd.C_below HR0_2.out HB.out) | (with_reducible refine Kd.C_alloc ?_ _) | (with_reducible refine Kd.C_drewN ?_ _) | (with_reducible refine Kd.C_drew ?_))); (case side4 => exact HC0_2.out); rintro e w49 ⟨v257, rfl, ho0, hb⟩; refine ⟨_, rfl, ?_⟩; have n0_ := Aside0.mk (Kd.S_elder' (by (with_reducible repeat (first | apply Kd.S_alloc | apply Kd.S_drewN | apply Kd.S_drew)); exact HO_5.out) (Kd.R_base ho0) hb); have n1_ := Aside0.mk (Kd.R_elder' (by (with_reducible repeat (first | apply Kd.R_alloc | apply Kd.R_drewN | apply Kd.R_drew)); exact HO_8.out) (Kd.R_base ho0) hb); have n2_ := Aside0.mk (Kd.R_lower (Kd.R_new' ho0 (Kd.R_lt (by (with_reducible repeat (first | apply Kd.R_alloc | apply Kd.R_drewN | apply Kd.R_drew)); exact HO_8.out))) (below_size (by repeat (first | (with_reducible first | exact HB.out | apply below_alloc | apply pw_below_drewN | apply below_drew1 | refine below_set ?_ GE236.out) | exact HB.out)))); have n3_ := Aside0.mk (blk_below (g := gb236) (o := .cells #[.slice A0_0 l0_0.length c0_0, .int .i64 a0_1, .slice (some ad247) l0_2.length c0_2] 25 (0, 0)) (by (with_reducible repeat (first | refine blk_drewN ?_ _ | refine blk_drew ?_ | refine blk_alloc ?_ _)); exact BK236.out) hb); have n4_ := Aside0.mk (below_step (by repeat (first | (with_reducible first | exact HB.out | apply below_alloc | apply pw_below_drewN | apply below_drew1 | refine below_set ?_ GE236.out) | exact HB.out)) hb); clear HO_5; clear HO_8; clear BK236; clear HB; have HO_5 := n0_; have HO_8 := n1_; have HO258 := n2_; have BK236 := n3_; have HB := n4_; clear n0_ n1_ n2_ n3_ n4_; (try clear hb); (try clear hb2); (try clear hk); (try clear hi); (try clear ho0)))
                                have n0_ := Aside0.mk (Kd.S_drew HO_5.out)
                                have n1_ := Aside0.mk (Kd.R_drew HO_8.out)
                                have n2_ := Aside0.mk (Kd.R_drew HO258.out)
                                have n3_ := Aside0.mk (blk_drew BK236.out)
                                have n4_ := Aside0.mk (below_drew1 HB.out)
                                clear HO_5
                                clear HO_8
                                clear HO258
                                clear BK236
                                clear HB
                                have HO_5 := n0_
                                have HO_8 := n1_
                                have HO258 := n2_
                                have BK236 := n3_
                                have HB := n4_
                                clear n0_ n1_ n2_ n3_ n4_
                                have p260 : 0 ≤ (x9_3 : Int) := of_decide_eq_true (by first | (with_reducible assumption) | assumption)
                                have q260 : x9_3 < (((rd_T36 l0_2 a1).f0).length : Int) := of_decide_eq_true (by first | (with_reducible assumption) | assumption)
                                obtain ⟨ad260, e260, hx260_0, hx260_1, hx260_2, hx260_3, hx260_4, hx260_5⟩ := at_T46 HR247_0.out x9_3 p260 q260
                                have hw260_5 := hx260_5
                                have hw260_4 := hx260_4
                                have hw260_3 := hx260_3
                                have hw260_2 := hx260_2
                                have hw260_1 := hx260_1
                                have hw260_0 := hx260_0
                                cases e260
                                replace hx260_0 := (HB.out.cell (World.block_lt_of_cell? w _ hx260_0)).trans hx260_0
                                replace hx260_1 := (HB.out.cell (World.block_lt_of_cell? w _ hx260_1)).trans hx260_1
                                replace hx260_2 := (HB.out.cell (World.block_lt_of_cell? w _ hx260_2)).trans hx260_2
                                replace hx260_3 := (HB.out.cell (World.block_lt_of_cell? w _ hx260_3)).trans hx260_3
                                replace hx260_4 := (HB.out.cell (World.block_lt_of_cell? w _ hx260_4)).trans hx260_4
                                replace hx260_5 := (HB.out.cell (World.block_lt_of_cell? w _ hx260_5)).trans hx260_5
                                replace p260 := eq_true p260
                                replace q260 := eq_true q260
                                have p264 : 0 ≤ (x9_3 : Int) := of_decide_eq_true (by first | (with_reducible assumption) | assumption)
                                have q264 : x9_3 < (((rd_T36 l0_2 a1).f0).length : Int) := of_decide_eq_true (by first | (with_reducible assumption) | assumption)
                                obtain ⟨ad264, e264, hx264_0, hx264_1, hx264_2, hx264_3, hx264_4, hx264_5⟩ := at_T46 HR247_0.out x9_3 p264 q264
                                have hw264_5 := hx264_5
                                have hw264_4 := hx264_4
                                have hw264_3 := hx264_3
                                have hw264_2 := hx264_2
                                have hw264_1 := hx264_1
                                have hw264_0 := hx264_0
                                obtain rfl : ad260 = ad264 := (by injection e264)
                                replace hx264_0 := (HB.out.cell (World.block_lt_of_cell? w _ hx264_0)).trans hx264_0
                                replace hx264_1 := (HB.out.cell (World.block_lt_of_cell? w _ hx264_1)).trans hx264_1
                                replace hx264_2 := (HB.out.cell (World.block_lt_of_cell? w _ hx264_2)).trans hx264_2
                                replace hx264_3 := (HB.out.cell (World.block_lt_of_cell? w _ hx264_3)).trans hx264_3
                                replace hx264_4 := (HB.out.cell (World.block_lt_of_cell? w _ hx264_4)).trans hx264_4
                                replace hx264_5 := (HB.out.cell (World.block_lt_of_cell? w _ hx264_5)).trans hx264_5
                                replace p264 := eq_true p264
                                replace q264 := eq_true q264
                                refine start_ (n := 12) (S := fun w' => w'.cell? (ad260.add ((x9_3).toNat * 6)) = some (.int .u8 ((rd_T46 ((rd_T36 l0_2 a1).f0) x9_3).f0)) ∧ w'.cell? ⟨(ad260.add ((x9_3).toNat * 6)).block, (ad260.add ((x9_3).toNat * 6)).off + 1, none⟩ = some (.int .u8 ((rd_T46 ((rd_T36 l0_2 a1).f0) x9_3).f1)) ∧ w'.cell? ⟨(ad260.add ((x9_3).toNat * 6)).block, (ad260.add ((x9_3).toNat * 6)).off + 2, none⟩ = some (.int .i64 ((rd_T46 ((rd_T36 l0_2 a1).f0) x9_3).f2)) ∧ w'.cell? ⟨(ad260.add ((x9_3).toNat * 6)).block, (ad260.add ((x9_3).toNat * 6)).off + 3, none⟩ = some (.int .i64 ((rd_T46 ((rd_T36 l0_2 a1).f0) x9_3).f3)) ∧ w'.cell? ⟨(ad260.add ((x9_3).toNat * 6)).block, (ad260.add ((x9_3).toNat * 6)).off + 4, none⟩ = some (.int .i64 ((rd_T46 ((rd_T36 l0_2 a1).f0) x9_3).f4)) ∧ w'.cell? ⟨(ad260.add ((x9_3).toNat * 6)).block, (ad260.add ((x9_3).toNat * 6)).off + 5, none⟩ = some (.int .i64 ((rd_T46 ((rd_T36 l0_2 a1).f0) x9_3).f5)) ∧ w'.cell? (ad260.add ((x9_3).toNat * 6)) = some (.int .u8 ((rd_T46 ((rd_T36 l0_2 a1).f0) x9_3).f0)) ∧ w'.cell? ⟨(ad260.add ((x9_3).toNat * 6)).block, (ad260.add ((x9_3).toNat * 6)).off + 1, none⟩ = some (.int .u8 ((rd_T46 ((rd_T36 l0_2 a1).f0) x9_3).f1)) ∧ w'.cell? ⟨(ad260.add ((x9_3).toNat * 6)).block, (ad260.add ((x9_3).toNat * 6)).off + 2, none⟩ = some (.int .i64 ((rd_T46 ((rd_T36 l0_2 a1).f0) x9_3).f2)) ∧ w'.cell? ⟨(ad260.add ((x9_3).toNat * 6)).block, (ad260.add ((x9_3).toNat * 6)).off + 3, none⟩ = some (.int .i64 ((rd_T46 ((rd_T36 l0_2 a1).f0) x9_3).f3)) ∧ w'.cell? ⟨(ad260.add ((x9_3).toNat * 6)).block, (ad260.add ((x9_3).toNat * 6)).off + 4, none⟩ = some (.int .i64 ((rd_T46 ((rd_T36 l0_2 a1).f0) x9_3).f4)) ∧ w'.cell? ⟨(ad260.add ((x9_3).toNat * 6)).block, (ad260.add ((x9_3).toNat * 6)).off + 5, none⟩ = some (.int .i64 ((rd_T46 ((rd_T36 l0_2 a1).f0) x9_3).f5))) (ds := []) #[false, false, false, false, false, false, false, false, false, false, false, false] (by kernel_rfl) rfl rfl ⟨((HB.out.cell (World.block_lt_of_cell? w _ hw260_0)).trans hw260_0), ((HB.out.cell (World.block_lt_of_cell? w _ hw260_1)).trans hw260_1), ((HB.out.cell (World.block_lt_of_cell? w _ hw260_2)).trans hw260_2), ((HB.out.cell (World.block_lt_of_cell? w _ hw260_3)).trans hw260_3), ((HB.out.cell (World.block_lt_of_cell? w _ hw260_4)).trans hw260_4), ((HB.out.cell (World.block_lt_of_cell? w _ hw260_5)).trans hw260_5), ((HB.out.cell (World.block_lt_of_cell? w _ hw264_0)).trans hw264_0), ((HB.out.cell (World.block_lt_of_cell? w _ hw264_1)).trans hw264_1), ((HB.out.cell (World.block_lt_of_cell? w _ hw264_2)).trans hw264_2), ((HB.out.cell (World.block_lt_of_cell? w _ hw264_3)).trans hw264_3), ((HB.out.cell (World.block_lt_of_cell? w _ hw264_4)).trans hw264_4), ((HB.out.cell (World.block_lt_of_cell? w _ hw264_5)).trans hw264_5)⟩ (fun hHeld => ?_); refine with_tabW turnstilelaw13_LiveSteps.tab16 turnstilelaw13_LiveSteps.bits16 (fun HT_ HW_ => ?_)
                                generalize w49.drew = w50 at HO_5 HO_8 HO258 BK236 HB hx260_0 hx260_1 hx260_2 hx260_3 hx260_4 hx260_5 hx264_0 hx264_1 hx264_2 hx264_3 hx264_4 hx264_5 hHeld ⊢
                                refine pure_ (i := 0) (N := some 90) (v := ?_) (a' := ?_) #[true, false, false, false, false, false, false, false, false, false, false, false] rfl rfl (any_of HT_.out (by kernel_rfl)) (fun _ _ _ h => h) (Or.inl ⟨by rfl, ?_⟩) ?_ ?_
                                rotate_left
                                · intro w'
                                  go_simp
                                  with_reducible rfl
                                rotate_left
                                · simp only [Act.put, List.setIfInBounds_toArray, List.set_cons_zero, List.set_cons_succ, i64_w, i32_w]
                                  rfl
                                refine pure_ (i := 1) (N := some 91) (v := ?_) (a' := ?_) #[true, true, false, false, false, false, false, false, false, false, false, false] rfl rfl (any_of HT_.out (by kernel_rfl)) (fun _ _ _ h => h) (Or.inl ⟨by rfl, ?_⟩) ?_ ?_
                                rotate_left
                                · intro w'
                                  go_simp
                                  with_reducible rfl
                                rotate_left
                                · simp only [Act.put, List.setIfInBounds_toArray, List.set_cons_zero, List.set_cons_succ, i64_w, i32_w]
                                  rfl
                                refine pure_ (i := 2) (N := some 92) (v := ?_) (a' := ?_) #[true, true, true, false, false, false, false, false, false, false, false, false] rfl rfl (any_of HT_.out (by kernel_rfl)) (fun _ _ _ h => h) (Or.inl ⟨by rfl, ?_⟩) ?_ ?_
                                rotate_left
                                · intro w'
                                  go_simp
                                  with_reducible rfl
                                rotate_left
                                · simp only [Act.put, List.setIfInBounds_toArray, List.set_cons_zero, List.set_cons_succ, i64_w, i32_w]
                                  rfl
                                refine pure_ (i := 5) (N := some 95) (v := ?_) (a' := ?_) #[true, true, true, false, false, true, false, false, false, false, false, false] rfl rfl (any_of HT_.out (by kernel_rfl)) (fun _ _ _ h => h) (Or.inl ⟨by rfl, ?_⟩) ?_ ?_
                                rotate_left
                                · intro w'
                                  go_simp
                                  with_reducible rfl
                                rotate_left
                                · simp only [Act.put, List.setIfInBounds_toArray, List.set_cons_zero, List.set_cons_succ, i64_w, i32_w]
                                  rfl
                                refine pure_ (i := 6) (N := some 96) (v := ?_) (a' := ?_) #[true, true, true, false, false, true, true, false, false, false, false, false] rfl rfl (any_of HT_.out (by kernel_rfl)) (fun _ _ _ h => h) (Or.inl ⟨by rfl, ?_⟩) ?_ ?_
                                rotate_left
                                · intro w'
                                  go_simp
                                  with_reducible rfl
                                rotate_left
                                · simp only [Act.put, List.setIfInBounds_toArray, List.set_cons_zero, List.set_cons_succ, i64_w, i32_w]
                                  rfl
                                refine pure_ (i := 7) (N := some 97) (v := ?_) (a' := ?_) #[true, true, true, false, false, true, true, true, false, false, false, false] rfl rfl (any_of HT_.out (by kernel_rfl)) (fun _ _ _ h => h) (Or.inl ⟨by rfl, ?_⟩) ?_ ?_
                                rotate_left
                                · intro w'
                                  go_simp
                                  with_reducible rfl
                                rotate_left
                                · simp only [Act.put, List.setIfInBounds_toArray, List.set_cons_zero, List.set_cons_succ, i64_w, i32_w]
                                  rfl
                                refine take_ (i := 3) (N := some 93) (v := ?_) (a' := ?_) #[true, true, true, true, false, true, true, true, false, false, false, false] rfl rfl (take_ofW HT_.out HW_.out (by kernel_rfl)) (fun _ _ _ h => h) (Or.inl ⟨by rfl, ?_⟩) hHeld ?_ ?_
                                rotate_left
                                · rintro w' ⟨s0, s1, s2, s3, s4, s5, s6, s7, s8, s9, s10, s11⟩
                                  go_simp
                                  with_reducible rfl
                                rotate_left
                                · simp only [Act.put, List.setIfInBounds_toArray, List.set_cons_zero, List.set_cons_succ, i64_w, i32_w]
                                  rfl
                                refine take_ (i := 8) (N := some 98) (v := ?_) (a' := ?_) #[true, true, true, true, false, true, true, true, true, false, false, false] rfl rfl (take_ofW HT_.out HW_.out (by kernel_rfl)) (fun _ _ _ h => h) (Or.inl ⟨by rfl, ?_⟩) hHeld ?_ ?_
                                rotate_left
                                · rintro w' ⟨s0, s1, s2, s3, s4, s5, s6, s7, s8, s9, s10, s11⟩
                                  go_simp
                                  with_reducible rfl
                                rotate_left
                                · simp only [Act.put, List.setIfInBounds_toArray, List.set_cons_zero, List.set_cons_succ, i64_w, i32_w]
                                  rfl
                                refine one_ (i := 4) (N := some 94) #[true, true, true, true, true, true, true, true, true, false, false, false] rfl rfl (one_of HT_.out (by kernel_rfl)) (by decide) (fun K hK => ?_)
                                refine goes_ Try.func18 (by kernel_rfl) rfl #[.agg #[.int .u8 ((rd_T46 ((rd_T36 l0_2 a1).f0) x9_3).f0), .int .u8 ((rd_T46 ((rd_T36 l0_2 a1).f0) x9_3).f1), .int .i64 ((rd_T46 ((rd_T36 l0_2 a1).f0) x9_3).f2), .int .i64 ((rd_T46 ((rd_T36 l0_2 a1).f0) x9_3).f3), .int .i64 ((rd_T46 ((rd_T36 l0_2 a1).f0) x9_3).f4), .int .i64 ((rd_T46 ((rd_T36 l0_2 a1).f0) x9_3).f5)]] (by rfl) rfl rfl (by (try simp only [List.map_toArray, List.map_cons, List.map_nil]); first | done | rfl | (simp only [List.length_drop, List.length_take]; rfl)) ?_
                                with_reducible refine (turnstileref09_Reads.calls k3 ((rd_T46 ((rd_T36 l0_2 a1).f0) x9_3).f0) ((rd_T46 ((rd_T36 l0_2 a1).f0) x9_3).f1) ((rd_T46 ((rd_T36 l0_2 a1).f0) x9_3).f2) ((rd_T46 ((rd_T36 l0_2 a1).f0) x9_3).f3) ((rd_T46 ((rd_T36 l0_2 a1).f0) x9_3).f4) ((rd_T46 ((rd_T36 l0_2 a1).f0) x9_3).f5) t261 _ A46.out).mono ?_
                                rintro e w51 ⟨v262, rfl, ho0, hb⟩
                                refine ⟨_, rfl, ?_⟩
                                have n0_ := Aside0.mk (Kd.S_elder' (by (with_reducible repeat (first | apply Kd.S_alloc | apply Kd.S_drewN | apply Kd.S_drew)); exact HO_5.out) (Kd.R_base ho0) hb)
                                have n1_ := Aside0.mk (Kd.R_elder' (by (with_reducible repeat (first | apply Kd.R_alloc | apply Kd.R_drewN | apply Kd.R_drew)); exact HO_8.out) (Kd.R_base ho0) hb)
                                have n2_ := Aside0.mk (Kd.R_elder' (by (with_reducible repeat (first | apply Kd.R_alloc | apply Kd.R_drewN | apply Kd.R_drew)); exact HO258.out) (Kd.R_base ho0) hb)
                                have n3_ := Aside0.mk (Kd.R_lower (Kd.R_new' (Kd.R_new' ho0 (Kd.R_lt (by (with_reducible repeat (first | apply Kd.R_alloc | apply Kd.R_drewN | apply Kd.R_drew)); exact HO_8.out))) (Kd.R_lt (by (with_reducible repeat (first | apply Kd.R_alloc | apply Kd.R_drewN | apply Kd.R_drew)); exact HO258.out))) (below_size (by repeat (first | (with_reducible first | exact HB.out | apply below_alloc | apply pw_below_drewN | apply below_drew1 | refine below_set ?_ GE236.out) | exact HB.out))))
                                have n4_ := Aside0.mk (blk_below (g := gb236) (o := .cells #[.slice A0_0 l0_0.length c0_0, .int .i64 a0_1, .slice (some ad247) l0_2.length c0_2] 25 (0, 0)) (by (with_reducible repeat (first | refine blk_drewN ?_ _ | refine blk_drew ?_ | refine blk_alloc ?_ _)); exact BK236.out) hb)
                                have n5_ := Aside0.mk (below_step (by repeat (first | (with_reducible first | exact HB.out | apply below_alloc | apply pw_below_drewN | apply below_drew1 | refine below_set ?_ GE236.out) | exact HB.out)) hb)
                                clear HO_5
                                clear HO_8
                                clear HO258
                                clear BK236
                                clear HB
                                have HO_5 := n0_
                                have HO_8 := n1_
                                have HO258 := n2_
                                have HO263 := n3_
                                have BK236 := n4_
                                have HB := n5_
                                clear n0_ n1_ n2_ n3_ n4_ n5_
                                (try clear hb)
                                (try clear hb2)
                                (try clear hk)
                                (try clear hi)
                                (try clear ho0)
                                refine hK.out _ _ ⟨((HB.out.cell (World.block_lt_of_cell? w _ hw260_0)).trans hw260_0), ((HB.out.cell (World.block_lt_of_cell? w _ hw260_1)).trans hw260_1), ((HB.out.cell (World.block_lt_of_cell? w _ hw260_2)).trans hw260_2), ((HB.out.cell (World.block_lt_of_cell? w _ hw260_3)).trans hw260_3), ((HB.out.cell (World.block_lt_of_cell? w _ hw260_4)).trans hw260_4), ((HB.out.cell (World.block_lt_of_cell? w _ hw260_5)).trans hw260_5), ((HB.out.cell (World.block_lt_of_cell? w _ hw264_0)).trans hw264_0), ((HB.out.cell (World.block_lt_of_cell? w _ hw264_1)).trans hw264_1), ((HB.out.cell (World.block_lt_of_cell? w _ hw264_2)).trans hw264_2), ((HB.out.cell (World.block_lt_of_cell? w _ hw264_3)).trans hw264_3), ((HB.out.cell (World.block_lt_of_cell? w _ hw264_4)).trans hw264_4), ((HB.out.cell (World.block_lt_of_cell? w _ hw264_5)).trans hw264_5)⟩ (fun hHeld => ?_)
                                clear hK K
                                refine norm_ (a' := ?_) ?_ ?_
                                rotate_left
                                · show Act.put _ (some 94) _ = _
                                  simp only [Act.put, List.setIfInBounds_toArray, List.set_cons_zero, List.set_cons_succ, i64_w, i32_w]
                                  rfl
                                refine one_ (i := 9) (N := some 99) #[true, true, true, true, true, true, true, true, true, true, false, false] rfl rfl (one_of HT_.out (by kernel_rfl)) (by decide) (fun K hK => ?_)
                                refine goes_ Try.func19 (by kernel_rfl) rfl #[.agg #[.int .u8 ((rd_T46 ((rd_T36 l0_2 a1).f0) x9_3).f0), .int .u8 ((rd_T46 ((rd_T36 l0_2 a1).f0) x9_3).f1), .int .i64 ((rd_T46 ((rd_T36 l0_2 a1).f0) x9_3).f2), .int .i64 ((rd_T46 ((rd_T36 l0_2 a1).f0) x9_3).f3), .int .i64 ((rd_T46 ((rd_T36 l0_2 a1).f0) x9_3).f4), .int .i64 ((rd_T46 ((rd_T36 l0_2 a1).f0) x9_3).f5)]] (by rfl) rfl rfl (by (try simp only [List.map_toArray, List.map_cons, List.map_nil]); first | done | rfl | (simp only [List.length_drop, List.length_take]; rfl)) ?_
                                with_reducible refine (turnstileref09_Writes.calls ((rd_T46 ((rd_T36 l0_2 a1).f0) x9_3).f0) ((rd_T46 ((rd_T36 l0_2 a1).f0) x9_3).f1) ((rd_T46 ((rd_T36 l0_2 a1).f0) x9_3).f2) ((rd_T46 ((rd_T36 l0_2 a1).f0) x9_3).f3) ((rd_T46 ((rd_T36 l0_2 a1).f0) x9_3).f4) ((rd_T46 ((rd_T36 l0_2 a1).f0) x9_3).f5) t265 _ A47.out).mono ?_
                                rintro e w52 ⟨rfl, hb⟩
                                refine ⟨_, rfl, ?_⟩
                                have n0_ := Aside0.mk (Kd.S_below (by (with_reducible repeat (first | apply Kd.S_alloc | apply Kd.S_drewN | apply Kd.S_drew)); exact HO_5.out) hb)
                                have n1_ := Aside0.mk (Kd.R_below (by (with_reducible repeat (first | apply Kd.R_alloc | apply Kd.R_drewN | apply Kd.R_drew)); exact HO_8.out) hb)
                                have n2_ := Aside0.mk (Kd.R_below (by (with_reducible repeat (first | apply Kd.R_alloc | apply Kd.R_drewN | apply Kd.R_drew)); exact HO258.out) hb)
                                have n3_ := Aside0.mk (Kd.R_below (by (with_reducible repeat (first | apply Kd.R_alloc | apply Kd.R_drewN | apply Kd.R_drew)); exact HO263.out) hb)
                                have n4_ := Aside0.mk (blk_below (g := gb236) (o := .cells #[.slice A0_0 l0_0.length c0_0, .int .i64 a0_1, .slice (some ad247) l0_2.length c0_2] 25 (0, 0)) (by (with_reducible repeat (first | refine blk_drewN ?_ _ | refine blk_drew ?_ | refine blk_alloc ?_ _)); exact BK236.out) hb)
                                have n5_ := Aside0.mk (below_step (by repeat (first | (with_reducible first | exact HB.out | apply below_alloc | apply pw_below_drewN | apply below_drew1 | refine below_set ?_ GE236.out) | exact HB.out)) hb)
                                clear HO_5
                                clear HO_8
                                clear HO258
                                clear HO263
                                clear BK236
                                clear HB
                                have HO_5 := n0_
                                have HO_8 := n1_
                                have HO258 := n2_
                                have HO263 := n3_
                                have BK236 := n4_
                                have HB := n5_
                                clear n0_ n1_ n2_ n3_ n4_ n5_
                                (try clear hb)
                                (try clear hb2)
                                (try clear hk)
                                (try clear hi)
                                refine hK.out _ _ ⟨((HB.out.cell (World.block_lt_of_cell? w _ hw260_0)).trans hw260_0), ((HB.out.cell (World.block_lt_of_cell? w _ hw260_1)).trans hw260_1), ((HB.out.cell (World.block_lt_of_cell? w _ hw260_2)).trans hw260_2), ((HB.out.cell (World.block_lt_of_cell? w _ hw260_3)).trans hw260_3), ((HB.out.cell (World.block_lt_of_cell? w _ hw260_4)).trans hw260_4), ((HB.out.cell (World.block_lt_of_cell? w _ hw260_5)).trans hw260_5), ((HB.out.cell (World.block_lt_of_cell? w _ hw264_0)).trans hw264_0), ((HB.out.cell (World.block_lt_of_cell? w _ hw264_1)).trans hw264_1), ((HB.out.cell (World.block_lt_of_cell? w _ hw264_2)).trans hw264_2), ((HB.out.cell (World.block_lt_of_cell? w _ hw264_3)).trans hw264_3), ((HB.out.cell (World.block_lt_of_cell? w _ hw264_4)).trans hw264_4), ((HB.out.cell (World.block_lt_of_cell? w _ hw264_5)).trans hw264_5)⟩ (fun hHeld => ?_)
                                clear hK K
                                refine norm_ (a' := ?_) ?_ ?_
                                rotate_left
                                · show Act.put _ (some 99) _ = _
                                  simp only [Act.put, List.setIfInBounds_toArray, List.set_cons_zero, List.set_cons_succ, i64_w, i32_w]
                                  rfl
                                refine pure_ (i := 10) (N := some 12) (v := ?_) (a' := ?_) #[true, true, true, true, true, true, true, true, true, true, true, false] rfl rfl (any_of HT_.out (by kernel_rfl)) (fun _ _ _ h => h) (Or.inl ⟨by rfl, ?_⟩) ?_ ?_
                                rotate_left
                                · intro w'
                                  go_simp
                                  with_reducible rfl
                                rotate_left
                                · simp only [Act.put, List.setIfInBounds_toArray, List.set_cons_zero, List.set_cons_succ, i64_w, i32_w]
                                  rfl
                                refine pure_ (i := 11) (N := some 13) (v := ?_) (a' := ?_) #[true, true, true, true, true, true, true, true, true, true, true, true] rfl rfl (any_of HT_.out (by kernel_rfl)) (fun _ _ _ h => h) (Or.inl ⟨by rfl, ?_⟩) ?_ ?_
                                rotate_left
                                · intro w'
                                  go_simp
                                  with_reducible rfl
                                rotate_left
                                · simp only [Act.put, List.setIfInBounds_toArray, List.set_cons_zero, List.set_cons_succ, i64_w, i32_w]
                                  rfl
                                refine done_ (done_of HT_.out (by kernel_rfl)) ?_
                                try go_wp2
                                go_loopg [14] k3 (fun kq v14 w' => ∃ (x14_4 : Int), v14 = .int .i64 x14_4 ∧ Aside0 (turnstilelaw13_LiveSteps.l1 kq a1 t242 ((rd_T36 l0_2 a1).f0) x8_3 x9_3 t256 t259 t261 t265 x14_4 l0_0 a0_1 l0_2 = some r) ∧ Aside0 (kq ≤ k3) ∧ Aside0 (Kd.S (Kd.slice 3 (Kd.int .i64)) 37 w' w.heap.size (fun k_ => some k_ ≠ (u8 : Value).ownBlock ∧ some k_ ≠ (v257 : Value).ownBlock ∧ some k_ ≠ (v262 : Value).ownBlock) (.slice Ao33 t242.length co33) t242) ∧ Aside0 (Kd.R (Kd.int .i64) 3 w' w.heap.size (fun k_ => some k_ ≠ (v257 : Value).ownBlock ∧ some k_ ≠ (v262 : Value).ownBlock) u8 x8_3) ∧ Aside0 (Kd.R (Kd.int .i64) 3 w' w.heap.size (fun k_ => some k_ ≠ (u8 : Value).ownBlock ∧ some k_ ≠ (v262 : Value).ownBlock) v257 t256) ∧ Aside0 (Kd.R (Kd.int .i64) 3 w' w.heap.size (fun k_ => some k_ ≠ (u8 : Value).ownBlock ∧ some k_ ≠ (v257 : Value).ownBlock) v262 t261) ∧ Aside0 (w'.heap[gb236]? = some (.cells #[(.slice A0_0 l0_0.length c0_0), .int .i64 a0_1, (.slice (some ad247) l0_2.length c0_2)] 25 (0, 0))) ∧ Aside0 (Below w.heap.size w w'))
                                case atStart => exact ⟨(0), (by first | rfl | (simp; done) | (simp [*]; done)), H', ⟨Nat.le_refl _⟩, ⟨by (with_reducible repeat (first | apply Kd.S_alloc | apply Kd.S_drewN | apply Kd.S_drew)); exact Kd.S_mono HO_5.out (fun _ hk => ⟨hk.1.1, ⟨hk.1.2, hk.2⟩⟩)⟩, ⟨by (with_reducible repeat (first | apply Kd.R_alloc | apply Kd.R_drewN | apply Kd.R_drew)); exact Kd.R_mono HO_8.out (fun _ hk => ⟨hk.1.2, hk.2⟩)⟩, ⟨by (with_reducible repeat (first | apply Kd.R_alloc | apply Kd.R_drewN | apply Kd.R_drew)); exact Kd.R_mono HO258.out (fun _ hk => ⟨hk.1.2, hk.2⟩)⟩, ⟨by (with_reducible repeat (first | apply Kd.R_alloc | apply Kd.R_drewN | apply Kd.R_drew)); exact Kd.R_mono HO263.out (fun _ hk => ⟨hk.1.2, hk.2⟩)⟩, ⟨by (with_reducible repeat (first | refine blk_drewN ?_ _ | refine blk_drew ?_ | refine blk_alloc ?_ _)); exact BK236.out⟩, ⟨by repeat (first | (with_reducible first | exact HB.out | apply below_alloc | apply pw_below_drewN | apply below_drew1 | refine below_set ?_ GE236.out) | exact HB.out)⟩⟩
                                case round =>
                                  clear H'
                                  try clear c1
                                  try clear c2
                                  try clear p2
                                  try clear q2
                                  try clear hx2
                                  try clear c3
                                  try clear c4
                                  try clear c5
                                  try clear p6
                                  try clear c13
                                  try clear c14
                                  try clear c15
                                  try clear c16
                                  try clear c17
                                  try clear c18
                                  try clear c19
                                  try clear c22
                                  try clear c22b0
                                  try clear c22b1
                                  try clear c23
                                  try clear c23b0
                                  try clear c24
                                  try clear p24
                                  try clear q24
                                  try clear hx24
                                  try clear c25
                                  try clear p25
                                  try clear q25
                                  try clear hx25
                                  try clear p26
                                  try clear q26
                                  try clear hx26
                                  try clear c28
                                  try clear c28b0
                                  try clear c28b1
                                  try clear c28b2
                                  try clear c29
                                  try clear c29b0
                                  try clear c30
                                  try clear c30b0
                                  try clear c36
                                  try clear c36b0
                                  try clear c36b1
                                  try clear c37
                                  try clear c37b0
                                  try clear c37b1
                                  try clear c41
                                  try clear c42
                                  try clear c42b0
                                  try clear c44
                                  try clear c44b0
                                  try clear c45
                                  try clear c45b0
                                  try clear hcz15_0
                                  try clear hcz15_1
                                  try clear hcz15_2
                                  try clear hcz20_0
                                  try clear hcz20_1
                                  try clear hcz20_2
                                  try clear hcz24_0
                                  try clear hcz24_1
                                  try clear hcz24_2
                                  try clear hcz34_0
                                  try clear hcz34_1
                                  try clear hcz34_2
                                  try clear hcz38_0
                                  try clear hcz38_1
                                  try clear hcz38_2
                                  try clear hcz40_0
                                  try clear hcz40_1
                                  try clear hcz40_2
                                  try clear hcz48_0
                                  try clear hcz48_1
                                  try clear hcz48_2
                                  try clear hcz7_0
                                  try clear hcz7_1
                                  try clear hcz7_2
                                  try clear hfz15_0
                                  try clear hfz15_1
                                  try clear hfz15_2
                                  try clear hfz20_0
                                  try clear hfz20_1
                                  try clear hfz20_2
                                  try clear hfz24_0
                                  try clear hfz24_1
                                  try clear hfz24_2
                                  try clear hfz34_0
                                  try clear hfz34_1
                                  try clear hfz34_2
                                  try clear hfz38_0
                                  try clear hfz38_1
                                  try clear hfz38_2
                                  try clear hfz40_0
                                  try clear hfz40_1
                                  try clear hfz40_2
                                  try clear hfz48_0
                                  try clear hfz48_1
                                  try clear hfz48_2
                                  try clear hfz7_0
                                  try clear hfz7_1
                                  try clear hfz7_2
                                  try clear hx247_0
                                  try clear hx247_1
                                  try clear hx247_2
                                  try clear hx247_3
                                  try clear hx247_4
                                  try clear hx252_0
                                  try clear hx252_1
                                  try clear hx252_2
                                  try clear hx252_3
                                  try clear hx252_4
                                  try clear hx260_0
                                  try clear hx260_1
                                  try clear hx260_2
                                  try clear hx260_3
                                  try clear hx260_4
                                  try clear hx260_5
                                  try clear hx264_0
                                  try clear hx264_1
                                  try clear hx264_2
                                  try clear hx264_3
                                  try clear hx264_4
                                  try clear hx264_5
                                  try clear p2
                                  try clear p24
                                  try clear p247
                                  try clear p25
                                  try clear p252
                                  try clear p260
                                  try clear p264
                                  try clear p6
                                  try clear q2
                                  try clear q24
                                  try clear q247
                                  try clear q25
                                  try clear q252
                                  try clear q260
                                  try clear q264
                                  obtain ⟨x14_4, rfl, HA, HK4, HO_5, HO_8, HO_10, HO_12, BK236, HB⟩ := hrel
                                  cases gk with
                                  | zero => exact absurd HA.out (by simp [turnstilelaw13_LiveSteps.l1])
                                  | succ k4 =>
                                    have H := HA.out
                                    clear HA
                                    simp only [turnstilelaw13_LiveSteps.l1] at H
                                    by_cases c53 : x14_4 < (l0_0.length : Int)
                                    · rw [if_pos c53] at H
                                      have c53b0 : decide (x14_4 < (l0_0.length : Int)) = true := decide_eq_true c53
                                      clear c53
                                      replace H := Option.bind_eq_some_iff.mp H
                                      obtain ⟨t266, A540, H⟩ := H
                                      replace H : ((turnstilelaw13_has.f k4 t261 x14_4).bind fun t267 => (if t267 = true then (if (t266 != true) = true then (some false) else (turnstilelaw13_LiveSteps.l1 k4 a1 t242 ((rd_T36 l0_2 a1).f0) x8_3 x9_3 t256 t259 t261 t265 (wrap64 (x14_4 + 1)) l0_0 a0_1 l0_2)) else ((turnstilelaw13_has.f k4 x8_3 x14_4).bind fun t268 => (if t268 = true then (if (t266 != (x14_4 != t265)) = true then (some false) else (turnstilelaw13_LiveSteps.l1 k4 a1 t242 ((rd_T36 l0_2 a1).f0) x8_3 x9_3 t256 t259 t261 t265 (wrap64 (x14_4 + 1)) l0_0 a0_1 l0_2)) else (if (t266 != false) = true then (some false) else (turnstilelaw13_LiveSteps.l1 k4 a1 t242 ((rd_T36 l0_2 a1).f0) x8_3 x9_3 t256 t259 t261 t265 (wrap64 (x14_4 + 1)) l0_0 a0_1 l0_2)))))) = some r := H
                                      have A54 := Aside0.mk A540
                                      clear A540
                                      replace H := Option.bind_eq_some_iff.mp H
                                      obtain ⟨t267, A550, H⟩ := H
                                      replace H : (if t267 = true then (if (t266 != true) = true then (some false) else (turnstilelaw13_LiveSteps.l1 k4 a1 t242 ((rd_T36 l0_2 a1).f0) x8_3 x9_3 t256 t259 t261 t265 (wrap64 (x14_4 + 1)) l0_0 a0_1 l0_2)) else ((turnstilelaw13_has.f k4 x8_3 x14_4).bind fun t268 => (if t268 = true then (if (t266 != (x14_4 != t265)) = true then (some false) else (turnstilelaw13_LiveSteps.l1 k4 a1 t242 ((rd_T36 l0_2 a1).f0) x8_3 x9_3 t256 t259 t261 t265 (wrap64 (x14_4 + 1)) l0_0 a0_1 l0_2)) else (if (t266 != false) = true then (some false) else (turnstilelaw13_LiveSteps.l1 k4 a1 t242 ((rd_T36 l0_2 a1).f0) x8_3 x9_3 t256 t259 t261 t265 (wrap64 (x14_4 + 1)) l0_0 a0_1 l0_2))))) = some r := H
                                      have A55 := Aside0.mk A550
                                      clear A550
                                      by_cases c56 : t267 = true
                                      · subst c56
                                        have H1 : (if (t266 != true) = true then (some false) else (turnstilelaw13_LiveSteps.l1 k4 a1 t242 ((rd_T36 l0_2 a1).f0) x8_3 x9_3 t256 t259 t261 t265 (wrap64 (x14_4 + 1)) l0_0 a0_1 l0_2)) = some r := by rw [if_pos rfl] at H; exact H
                                        clear H
                                        have H := H1
                                        clear H1
                                        by_cases c57 : (t266 != true) = true
                                        · rw [if_pos c57] at H
                                          have c57b0 : (t266 != true) = true := c57
                                          (try (have c57b1 : decide (t266 = true) = false := by simpa using c57))
                                          (try (have c57b2 : (t266 == true) = false := by simpa using c57))
                                          (try (have c57b3 : ¬ (t266 = true) := by simpa using c57))
                                          clear c57
                                          obtain rfl := Option.some.inj H
                                          have hcz58_0 : wr.cell? ⟨gb236, 0, none⟩ = some (.slice A0_0 l0_0.length c0_0) := (blk_cell BK236.out 0).trans rfl
                                          have hcz58_1 : wr.cell? ⟨gb236, 1, none⟩ = some (.int .i64 a0_1) := (blk_cell BK236.out 1).trans rfl
                                          have hcz58_2 : wr.cell? ⟨gb236, 2, none⟩ = some (.slice (some ad247) l0_2.length c0_2) := (blk_cell BK236.out 2).trans rfl
                                          have hfz58_0 := blk_frozen BK236.out 0
                                          have hfz58_1 := blk_frozen BK236.out 1
                                          have hfz58_2 := blk_frozen BK236.out 2
                                          obtain ⟨Ao59, co59, eo59⟩ := Kd.R_slice HO_10.out
                                          subst eo59
                                          go_wp2_with (first | ((with_reducible refine gate_callee (f := 20) rfl ?_); refine goesL_ (some 109) rfl rfl Try.func20 (by kernel_rfl) rfl #[.slice Ao59 t256.length co59, .int .i64 x14_4] rfl (by (try simp only [List.map_toArray, List.map_cons, List.map_nil]); first | done | rfl | (simp only [List.length_drop, List.length_take]; rfl)) ?_; (with_reducible refine (turnstilelaw13_has.calls k4 _ _ t256 x14_4 t266 _ ?side1 ?side2 A54.out).mono ?_); (case side1 => repeat (first | exact (Kd.R_reads' HO_10.out).2.2 | (with_reducible refine Kd.C_alloc ?_ _) | (with_reducible refine Kd.C_drewN ?_ _) | (with_reducible refine Kd.C_drew ?_))); (case side2 => exact (Kd.R_reads' HO_10.out).2.1); rintro e w' ⟨rfl, ⟨nd, rfl⟩⟩; refine ⟨_, rfl, ?_⟩; obtain ⟨Ao60, co60, eo60⟩ := Kd.R_slice HO_12.out; subst eo60) | ((with_reducible refine gate_callee (f := 20) rfl ?_); refine goesL_ (some 112) rfl rfl Try.func20 (by kernel_rfl) rfl #[.slice Ao60 t261.length co60, .int .i64 x14_4] rfl (by (try simp only [List.map_toArray, List.map_cons, List.map_nil]); first | done | rfl | (simp only [List.length_drop, List.length_take]; rfl)) ?_; (with_reducible refine (turnstilelaw13_has.calls k4 _ _ t261 x14_4 true _ ?side1 ?side2 A55.out).mono ?_); (case side1 => repeat (first | exact (Kd.R_reads' HO_12.out).2.2 | (with_reducible refine Kd.C_alloc ?_ _) | (with_reducible refine Kd.C_drewN ?_ _) | (with_reducible refine Kd.C_drew ?_))); (case side2 => exact (Kd.R_reads' HO_12.out).2.1); rintro e w' ⟨rfl, ⟨nd, rfl⟩⟩; refine ⟨_, rfl, ?_⟩))
                                          go_ret
                                          exact ⟨by first | rfl | (simp [errW_none, errW_some] <;> rfl) | (simp [*, errW_none, errW_some] <;> rfl), by repeat (first | (with_reducible first | exact HB.out | apply below_alloc | apply pw_below_drewN | apply below_drew1 | refine below_set ?_ GE236.out) | exact HB.out)⟩
                                        · rw [if_neg c57] at H
                                          have c57b0 : (t266 != true) = false := by simpa using c57
                                          (try (have c57b1 : decide (t266 = true) = true := by simpa using c57))
                                          (try (have c57b2 : (t266 == true) = true := by simpa using c57))
                                          clear c57
                                          have H' := Aside0.mk H
                                          clear H
                                          have hcz61_0 : wr.cell? ⟨gb236, 0, none⟩ = some (.slice A0_0 l0_0.length c0_0) := (blk_cell BK236.out 0).trans rfl
                                          have hcz61_1 : wr.cell? ⟨gb236, 1, none⟩ = some (.int .i64 a0_1) := (blk_cell BK236.out 1).trans rfl
                                          have hcz61_2 : wr.cell? ⟨gb236, 2, none⟩ = some (.slice (some ad247) l0_2.length c0_2) := (blk_cell BK236.out 2).trans rfl
                                          have hfz61_0 := blk_frozen BK236.out 0
                                          have hfz61_1 := blk_frozen BK236.out 1
                                          have hfz61_2 := blk_frozen BK236.out 2
                                          obtain ⟨Ao62, co62, eo62⟩ := Kd.R_slice HO_10.out
                                          subst eo62
                                          go_wp2_with (first | ((with_reducible refine gate_callee (f := 20) rfl ?_); refine goesL_ (some 109) rfl rfl Try.func20 (by kernel_rfl) rfl #[.slice Ao62 t256.length co62, .int .i64 x14_4] rfl (by (try simp only [List.map_toArray, List.map_cons, List.map_nil]); first | done | rfl | (simp only [List.length_drop, List.length_take]; rfl)) ?_; (with_reducible refine (turnstilelaw13_has.calls k4 _ _ t256 x14_4 t266 _ ?side1 ?side2 A54.out).mono ?_); (case side1 => repeat (first | exact (Kd.R_reads' HO_10.out).2.2 | (with_reducible refine Kd.C_alloc ?_ _) | (with_reducible refine Kd.C_drewN ?_ _) | (with_reducible refine Kd.C_drew ?_))); (case side2 => exact (Kd.R_reads' HO_10.out).2.1); rintro e w' ⟨rfl, ⟨nd, rfl⟩⟩; refine ⟨_, rfl, ?_⟩; obtain ⟨Ao63, co63, eo63⟩ := Kd.R_slice HO_12.out; subst eo63) | ((with_reducible refine gate_callee (f := 20) rfl ?_); refine goesL_ (some 112) rfl rfl Try.func20 (by kernel_rfl) rfl #[.slice Ao63 t261.length co63, .int .i64 x14_4] rfl (by (try simp only [List.map_toArray, List.map_cons, List.map_nil]); first | done | rfl | (simp only [List.length_drop, List.length_take]; rfl)) ?_; (with_reducible refine (turnstilelaw13_has.calls k4 _ _ t261 x14_4 true _ ?side1 ?side2 A55.out).mono ?_); (case side1 => repeat (first | exact (Kd.R_reads' HO_12.out).2.2 | (with_reducible refine Kd.C_alloc ?_ _) | (with_reducible refine Kd.C_drewN ?_ _) | (with_reducible refine Kd.C_drew ?_))); (case side2 => exact (Kd.R_reads' HO_12.out).2.1); rintro e w' ⟨rfl, ⟨nd, rfl⟩⟩; refine ⟨_, rfl, ?_⟩))
                                          go_roundg k4
                                          case measure => have := HJ12.out; have := HJ31.out; have := HK3.out; have := HK4.out; omega
                                          case rel => exact ⟨(wrap64 (x14_4 + 1)), (by first | rfl | (simp; done) | (simp [*]; done)), H', ⟨by have := HJ12.out; have := HJ31.out; have := HK3.out; have := HK4.out; omega⟩, ⟨by (with_reducible repeat (first | apply Kd.S_alloc | apply Kd.S_drewN | apply Kd.S_drew)); exact HO_5.out⟩, ⟨by (with_reducible repeat (first | apply Kd.R_alloc | apply Kd.R_drewN | apply Kd.R_drew)); exact HO_8.out⟩, ⟨by (with_reducible repeat (first | apply Kd.R_alloc | apply Kd.R_drewN | apply Kd.R_drew)); exact HO_10.out⟩, ⟨by (with_reducible repeat (first | apply Kd.R_alloc | apply Kd.R_drewN | apply Kd.R_drew)); exact HO_12.out⟩, ⟨by (with_reducible repeat (first | refine blk_drewN ?_ _ | refine blk_drew ?_ | refine blk_alloc ?_ _)); exact BK236.out⟩, ⟨by repeat (first | (with_reducible first | exact HB.out | apply below_alloc | apply pw_below_drewN | apply below_drew1 | refine below_set ?_ GE236.out) | exact HB.out)⟩⟩
                                      · replace c56 := Bool.eq_false_iff.mpr c56
                                        subst c56
                                        have H1 : ((turnstilelaw13_has.f k4 x8_3 x14_4).bind fun t268 => (if t268 = true then (if (t266 != (x14_4 != t265)) = true then (some false) else (turnstilelaw13_LiveSteps.l1 k4 a1 t242 ((rd_T36 l0_2 a1).f0) x8_3 x9_3 t256 t259 t261 t265 (wrap64 (x14_4 + 1)) l0_0 a0_1 l0_2)) else (if (t266 != false) = true then (some false) else (turnstilelaw13_LiveSteps.l1 k4 a1 t242 ((rd_T36 l0_2 a1).f0) x8_3 x9_3 t256 t259 t261 t265 (wrap64 (x14_4 + 1)) l0_0 a0_1 l0_2)))) = some r := by rw [if_neg (show ¬ (false = true) by decide)] at H; exact H
                                        clear H
                                        have H := H1
                                        clear H1
                                        replace H := Option.bind_eq_some_iff.mp H
                                        obtain ⟨t268, A640, H⟩ := H
                                        replace H : (if t268 = true then (if (t266 != (x14_4 != t265)) = true then (some false) else (turnstilelaw13_LiveSteps.l1 k4 a1 t242 ((rd_T36 l0_2 a1).f0) x8_3 x9_3 t256 t259 t261 t265 (wrap64 (x14_4 + 1)) l0_0 a0_1 l0_2)) else (if (t266 != false) = true then (some false) else (turnstilelaw13_LiveSteps.l1 k4 a1 t242 ((rd_T36 l0_2 a1).f0) x8_3 x9_3 t256 t259 t261 t265 (wrap64 (x14_4 + 1)) l0_0 a0_1 l0_2))) = some r := H
                                        have A64 := Aside0.mk A640
                                        clear A640
                                        by_cases c65 : t268 = true
                                        · subst c65
                                          have H1 : (if (t266 != (x14_4 != t265)) = true then (some false) else (turnstilelaw13_LiveSteps.l1 k4 a1 t242 ((rd_T36 l0_2 a1).f0) x8_3 x9_3 t256 t259 t261 t265 (wrap64 (x14_4 + 1)) l0_0 a0_1 l0_2)) = some r := by rw [if_pos rfl] at H; exact H
                                          clear H
                                          have H := H1
                                          clear H1
                                          by_cases c66 : (t266 != (x14_4 != t265)) = true
                                          · rw [if_pos c66] at H
                                            have c66b0 : (t266 != (x14_4 != t265)) = true := c66
                                            (try (have c66b1 : decide (t266 = (x14_4 != t265)) = false := by simpa using c66))
                                            (try (have c66b2 : (t266 == (x14_4 != t265)) = false := by simpa using c66))
                                            (try (have c66b3 : ¬ (t266 = (x14_4 != t265)) := by simpa using c66))
                                            clear c66
                                            obtain rfl := Option.some.inj H
                                            have hcz67_0 : wr.cell? ⟨gb236, 0, none⟩ = some (.slice A0_0 l0_0.length c0_0) := (blk_cell BK236.out 0).trans rfl
                                            have hcz67_1 : wr.cell? ⟨gb236, 1, none⟩ = some (.int .i64 a0_1) := (blk_cell BK236.out 1).trans rfl
                                            have hcz67_2 : wr.cell? ⟨gb236, 2, none⟩ = some (.slice (some ad247) l0_2.length c0_2) := (blk_cell BK236.out 2).trans rfl
                                            have hfz67_0 := blk_frozen BK236.out 0
                                            have hfz67_1 := blk_frozen BK236.out 1
                                            have hfz67_2 := blk_frozen BK236.out 2
                                            obtain ⟨Ao68, co68, eo68⟩ := Kd.R_slice HO_10.out
                                            subst eo68
                                            go_wp2_with (first | ((with_reducible refine gate_callee (f := 20) rfl ?_); refine goesL_ (some 109) rfl rfl Try.func20 (by kernel_rfl) rfl #[.slice Ao68 t256.length co68, .int .i64 x14_4] rfl (by (try simp only [List.map_toArray, List.map_cons, List.map_nil]); first | done | rfl | (simp only [List.length_drop, List.length_take]; rfl)) ?_; (with_reducible refine (turnstilelaw13_has.calls k4 _ _ t256 x14_4 t266 _ ?side1 ?side2 A54.out).mono ?_); (case side1 => repeat (first | exact (Kd.R_reads' HO_10.out).2.2 | (with_reducible refine Kd.C_alloc ?_ _) | (with_reducible refine Kd.C_drewN ?_ _) | (with_reducible refine Kd.C_drew ?_))); (case side2 => exact (Kd.R_reads' HO_10.out).2.1); rintro e w' ⟨rfl, ⟨nd, rfl⟩⟩; refine ⟨_, rfl, ?_⟩; obtain ⟨Ao69, co69, eo69⟩ := Kd.R_slice HO_12.out; subst eo69) | ((with_reducible refine gate_callee (f := 20) rfl ?_); refine goesL_ (some 112) rfl rfl Try.func20 (by kernel_rfl) rfl #[.slice Ao69 t261.length co69, .int .i64 x14_4] rfl (by (try simp only [List.map_toArray, List.map_cons, List.map_nil]); first | done | rfl | (simp only [List.length_drop, List.length_take]; rfl)) ?_; (with_reducible refine (turnstilelaw13_has.calls k4 _ _ t261 x14_4 false _ ?side1 ?side2 A55.out).mono ?_); (case side1 => repeat (first | exact (Kd.R_reads' HO_12.out).2.2 | (with_reducible refine Kd.C_alloc ?_ _) | (with_reducible refine Kd.C_drewN ?_ _) | (with_reducible refine Kd.C_drew ?_))); (case side2 => exact (Kd.R_reads' HO_12.out).2.1); rintro e w' ⟨rfl, ⟨nd, rfl⟩⟩; refine ⟨_, rfl, ?_⟩; obtain ⟨Ao70, co70, eo70⟩ := Kd.R_slice HO_8.out; subst eo70) | (go_at_call 20; (with_reducible refine (turnstilelaw13_has.calls k4 _ _ x8_3 x14_4 true _ ?side1 ?side2 A64.out).mono ?_); (case side1 => repeat (first | exact (Kd.R_reads' HO_8.out).2.2 | (with_reducible refine Kd.C_alloc ?_ _) | (with_reducible refine Kd.C_drewN ?_ _) | (with_reducible refine Kd.C_drew ?_))); (case side2 => exact (Kd.R_reads' HO_8.out).2.1); rintro e w' ⟨rfl, ⟨nd, rfl⟩⟩))
                                            go_ret
                                            exact ⟨by first | rfl | (simp [errW_none, errW_some] <;> rfl) | (simp [*, errW_none, errW_some] <;> rfl), by repeat (first | (with_reducible first | exact HB.out | apply below_alloc | apply pw_below_drewN | apply below_drew1 | refine below_set ?_ GE236.out) | exact HB.out)⟩
                                          · rw [if_neg c66] at H
                                            have c66b0 : (t266 != (x14_4 != t265)) = false := by simpa using c66
                                            (try (have c66b1 : decide (t266 = (x14_4 != t265)) = true := by simpa using c66))
                                            (try (have c66b2 : (t266 == (x14_4 != t265)) = true := by simpa using c66))
                                            clear c66
                                            have H' := Aside0.mk H
                                            clear H
                                            have hcz71_0 : wr.cell? ⟨gb236, 0, none⟩ = some (.slice A0_0 l0_0.length c0_0) := (blk_cell BK236.out 0).trans rfl
                                            have hcz71_1 : wr.cell? ⟨gb236, 1, none⟩ = some (.int .i64 a0_1) := (blk_cell BK236.out 1).trans rfl
                                            have hcz71_2 : wr.cell? ⟨gb236, 2, none⟩ = some (.slice (some ad247) l0_2.length c0_2) := (blk_cell BK236.out 2).trans rfl
                                            have hfz71_0 := blk_frozen BK236.out 0
                                            have hfz71_1 := blk_frozen BK236.out 1
                                            have hfz71_2 := blk_frozen BK236.out 2
                                            obtain ⟨Ao72, co72, eo72⟩ := Kd.R_slice HO_10.out
                                            subst eo72
                                            go_wp2_with (first | ((with_reducible refine gate_callee (f := 20) rfl ?_); refine goesL_ (some 109) rfl rfl Try.func20 (by kernel_rfl) rfl #[.slice Ao72 t256.length co72, .int .i64 x14_4] rfl (by (try simp only [List.map_toArray, List.map_cons, List.map_nil]); first | done | rfl | (simp only [List.length_drop, List.length_take]; rfl)) ?_; (with_reducible refine (turnstilelaw13_has.calls k4 _ _ t256 x14_4 t266 _ ?side1 ?side2 A54.out).mono ?_); (case side1 => repeat (first | exact (Kd.R_reads' HO_10.out).2.2 | (with_reducible refine Kd.C_alloc ?_ _) | (with_reducible refine Kd.C_drewN ?_ _) | (with_reducible refine Kd.C_drew ?_))); (case side2 => exact (Kd.R_reads' HO_10.out).2.1); rintro e w' ⟨rfl, ⟨nd, rfl⟩⟩; refine ⟨_, rfl, ?_⟩; obtain ⟨Ao73, co73, eo73⟩ := Kd.R_slice HO_12.out; subst eo73) | ((with_reducible refine gate_callee (f := 20) rfl ?_); refine goesL_ (some 112) rfl rfl Try.func20 (by kernel_rfl) rfl #[.slice Ao73 t261.length co73, .int .i64 x14_4] rfl (by (try simp only [List.map_toArray, List.map_cons, List.map_nil]); first | done | rfl | (simp only [List.length_drop, List.length_take]; rfl)) ?_; (with_reducible refine (turnstilelaw13_has.calls k4 _ _ t261 x14_4 false _ ?side1 ?side2 A55.out).mono ?_); (case side1 => repeat (first | exact (Kd.R_reads' HO_12.out).2.2 | (with_reducible refine Kd.C_alloc ?_ _) | (with_reducible refine Kd.C_drewN ?_ _) | (with_reducible refine Kd.C_drew ?_))); (case side2 => exact (Kd.R_reads' HO_12.out).2.1); rintro e w' ⟨rfl, ⟨nd, rfl⟩⟩; refine ⟨_, rfl, ?_⟩; obtain ⟨Ao74, co74, eo74⟩ := Kd.R_slice HO_8.out; subst eo74) | (go_at_call 20; (with_reducible refine (turnstilelaw13_has.calls k4 _ _ x8_3 x14_4 true _ ?side1 ?side2 A64.out).mono ?_); (case side1 => repeat (first | exact (Kd.R_reads' HO_8.out).2.2 | (with_reducible refine Kd.C_alloc ?_ _) | (with_reducible refine Kd.C_drewN ?_ _) | (with_reducible refine Kd.C_drew ?_))); (case side2 => exact (Kd.R_reads' HO_8.out).2.1); rintro e w' ⟨rfl, ⟨nd, rfl⟩⟩))
                                            go_roundg k4
                                            case measure => have := HJ12.out; have := HJ31.out; have := HK3.out; have := HK4.out; omega
                                            case rel => exact ⟨(wrap64 (x14_4 + 1)), (by first | rfl | (simp; done) | (simp [*]; done)), H', ⟨by have := HJ12.out; have := HJ31.out; have := HK3.out; have := HK4.out; omega⟩, ⟨by (with_reducible repeat (first | apply Kd.S_alloc | apply Kd.S_drewN | apply Kd.S_drew)); exact HO_5.out⟩, ⟨by (with_reducible repeat (first | apply Kd.R_alloc | apply Kd.R_drewN | apply Kd.R_drew)); exact HO_8.out⟩, ⟨by (with_reducible repeat (first | apply Kd.R_alloc | apply Kd.R_drewN | apply Kd.R_drew)); exact HO_10.out⟩, ⟨by (with_reducible repeat (first | apply Kd.R_alloc | apply Kd.R_drewN | apply Kd.R_drew)); exact HO_12.out⟩, ⟨by (with_reducible repeat (first | refine blk_drewN ?_ _ | refine blk_drew ?_ | refine blk_alloc ?_ _)); exact BK236.out⟩, ⟨by repeat (first | (with_reducible first | exact HB.out | apply below_alloc | apply pw_below_drewN | apply below_drew1 | refine below_set ?_ GE236.out) | exact HB.out)⟩⟩
                                        · replace c65 := Bool.eq_false_iff.mpr c65
                                          subst c65
                                          have H1 : (if (t266 != false) = true then (some false) else (turnstilelaw13_LiveSteps.l1 k4 a1 t242 ((rd_T36 l0_2 a1).f0) x8_3 x9_3 t256 t259 t261 t265 (wrap64 (x14_4 + 1)) l0_0 a0_1 l0_2)) = some r := by rw [if_neg (show ¬ (false = true) by decide)] at H; exact H
                                          clear H
                                          have H := H1
                                          clear H1
                                          by_cases c75 : (t266 != false) = true
                                          · rw [if_pos c75] at H
                                            have c75b0 : (t266 != false) = true := c75
                                            (try (have c75b1 : decide (t266 = false) = false := by simpa using c75))
                                            (try (have c75b2 : (t266 == false) = false := by simpa using c75))
                                            (try (have c75b3 : ¬ (t266 = false) := by simpa using c75))
                                            clear c75
                                            obtain rfl := Option.some.inj H
                                            have hcz76_0 : wr.cell? ⟨gb236, 0, none⟩ = some (.slice A0_0 l0_0.length c0_0) := (blk_cell BK236.out 0).trans rfl
                                            have hcz76_1 : wr.cell? ⟨gb236, 1, none⟩ = some (.int .i64 a0_1) := (blk_cell BK236.out 1).trans rfl
                                            have hcz76_2 : wr.cell? ⟨gb236, 2, none⟩ = some (.slice (some ad247) l0_2.length c0_2) := (blk_cell BK236.out 2).trans rfl
                                            have hfz76_0 := blk_frozen BK236.out 0
                                            have hfz76_1 := blk_frozen BK236.out 1
                                            have hfz76_2 := blk_frozen BK236.out 2
                                            obtain ⟨Ao77, co77, eo77⟩ := Kd.R_slice HO_10.out
                                            subst eo77
                                            go_wp2_with (first | ((with_reducible refine gate_callee (f := 20) rfl ?_); refine goesL_ (some 109) rfl rfl Try.func20 (by kernel_rfl) rfl #[.slice Ao77 t256.length co77, .int .i64 x14_4] rfl (by (try simp only [List.map_toArray, List.map_cons, List.map_nil]); first | done | rfl | (simp only [List.length_drop, List.length_take]; rfl)) ?_; (with_reducible refine (turnstilelaw13_has.calls k4 _ _ t256 x14_4 t266 _ ?side1 ?side2 A54.out).mono ?_); (case side1 => repeat (first | exact (Kd.R_reads' HO_10.out).2.2 | (with_reducible refine Kd.C_alloc ?_ _) | (with_reducible refine Kd.C_drewN ?_ _) | (with_reducible refine Kd.C_drew ?_))); (case side2 => exact (Kd.R_reads' HO_10.out).2.1); rintro e w' ⟨rfl, ⟨nd, rfl⟩⟩; refine ⟨_, rfl, ?_⟩; obtain ⟨Ao78, co78, eo78⟩ := Kd.R_slice HO_12.out; subst eo78) | ((with_reducible refine gate_callee (f := 20) rfl ?_); refine goesL_ (some 112) rfl rfl Try.func20 (by kernel_rfl) rfl #[.slice Ao78 t261.length co78, .int .i64 x14_4] rfl (by (try simp only [List.map_toArray, List.map_cons, List.map_nil]); first | done | rfl | (simp only [List.length_drop, List.length_take]; rfl)) ?_; (with_reducible refine (turnstilelaw13_has.calls k4 _ _ t261 x14_4 false _ ?side1 ?side2 A55.out).mono ?_); (case side1 => repeat (first | exact (Kd.R_reads' HO_12.out).2.2 | (with_reducible refine Kd.C_alloc ?_ _) | (with_reducible refine Kd.C_drewN ?_ _) | (with_reducible refine Kd.C_drew ?_))); (case side2 => exact (Kd.R_reads' HO_12.out).2.1); rintro e w' ⟨rfl, ⟨nd, rfl⟩⟩; refine ⟨_, rfl, ?_⟩; obtain ⟨Ao79, co79, eo79⟩ := Kd.R_slice HO_8.out; subst eo79) | (go_at_call 20; (with_reducible refine (turnstilelaw13_has.calls k4 _ _ x8_3 x14_4 false _ ?side1 ?side2 A64.out).mono ?_); (case side1 => repeat (first | exact (Kd.R_reads' HO_8.out).2.2 | (with_reducible refine Kd.C_alloc ?_ _) | (with_reducible refine Kd.C_drewN ?_ _) | (with_reducible refine Kd.C_drew ?_))); (case side2 => exact (Kd.R_reads' HO_8.out).2.1); rintro e w' ⟨rfl, ⟨nd, rfl⟩⟩))
                                            go_ret
                                            exact ⟨by first | rfl | (simp [errW_none, errW_some] <;> rfl) | (simp [*, errW_none, errW_some] <;> rfl), by repeat (first | (with_reducible first | exact HB.out | apply below_alloc | apply pw_below_drewN | apply below_drew1 | refine below_set ?_ GE236.out) | exact HB.out)⟩
                                          · rw [if_neg c75] at H
                                            have c75b0 : (t266 != false) = false := by simpa using c75
                                            (try (have c75b1 : decide (t266 = false) = true := by simpa using c75))
                                            (try (have c75b2 : (t266 == false) = true := by simpa using c75))
                                            clear c75
                                            have H' := Aside0.mk H
                                            clear H
                                            have hcz80_0 : wr.cell? ⟨gb236, 0, none⟩ = some (.slice A0_0 l0_0.length c0_0) := (blk_cell BK236.out 0).trans rfl
                                            have hcz80_1 : wr.cell? ⟨gb236, 1, none⟩ = some (.int .i64 a0_1) := (blk_cell BK236.out 1).trans rfl
                                            have hcz80_2 : wr.cell? ⟨gb236, 2, none⟩ = some (.slice (some ad247) l0_2.length c0_2) := (blk_cell BK236.out 2).trans rfl
                                            have hfz80_0 := blk_frozen BK236.out 0
                                            have hfz80_1 := blk_frozen BK236.out 1
                                            have hfz80_2 := blk_frozen BK236.out 2
                                            obtain ⟨Ao81, co81, eo81⟩ := Kd.R_slice HO_10.out
                                            subst eo81
                                            go_wp2_with (first | ((with_reducible refine gate_callee (f := 20) rfl ?_); refine goesL_ (some 109) rfl rfl Try.func20 (by kernel_rfl) rfl #[.slice Ao81 t256.length co81, .int .i64 x14_4] rfl (by (try simp only [List.map_toArray, List.map_cons, List.map_nil]); first | done | rfl | (simp only [List.length_drop, List.length_take]; rfl)) ?_; (with_reducible refine (turnstilelaw13_has.calls k4 _ _ t256 x14_4 t266 _ ?side1 ?side2 A54.out).mono ?_); (case side1 => repeat (first | exact (Kd.R_reads' HO_10.out).2.2 | (with_reducible refine Kd.C_alloc ?_ _) | (with_reducible refine Kd.C_drewN ?_ _) | (with_reducible refine Kd.C_drew ?_))); (case side2 => exact (Kd.R_reads' HO_10.out).2.1); rintro e w' ⟨rfl, ⟨nd, rfl⟩⟩; refine ⟨_, rfl, ?_⟩; obtain ⟨Ao82, co82, eo82⟩ := Kd.R_slice HO_12.out; subst eo82) | ((with_reducible refine gate_callee (f := 20) rfl ?_); refine goesL_ (some 112) rfl rfl Try.func20 (by kernel_rfl) rfl #[.slice Ao82 t261.length co82, .int .i64 x14_4] rfl (by (try simp only [List.map_toArray, List.map_cons, List.map_nil]); first | done | rfl | (simp only [List.length_drop, List.length_take]; rfl)) ?_; (with_reducible refine (turnstilelaw13_has.calls k4 _ _ t261 x14_4 false _ ?side1 ?side2 A55.out).mono ?_); (case side1 => repeat (first | exact (Kd.R_reads' HO_12.out).2.2 | (with_reducible refine Kd.C_alloc ?_ _) | (with_reducible refine Kd.C_drewN ?_ _) | (with_reducible refine Kd.C_drew ?_))); (case side2 => exact (Kd.R_reads' HO_12.out).2.1); rintro e w' ⟨rfl, ⟨nd, rfl⟩⟩; refine ⟨_, rfl, ?_⟩; obtain ⟨Ao83, co83, eo83⟩ := Kd.R_slice HO_8.out; subst eo83) | (go_at_call 20; (with_reducible refine (turnstilelaw13_has.calls k4 _ _ x8_3 x14_4 false _ ?side1 ?side2 A64.out).mono ?_); (case side1 => repeat (first | exact (Kd.R_reads' HO_8.out).2.2 | (with_reducible refine Kd.C_alloc ?_ _) | (with_reducible refine Kd.C_drewN ?_ _) | (with_reducible refine Kd.C_drew ?_))); (case side2 => exact (Kd.R_reads' HO_8.out).2.1); rintro e w' ⟨rfl, ⟨nd, rfl⟩⟩))
                                            go_roundg k4
                                            case measure => have := HJ12.out; have := HJ31.out; have := HK3.out; have := HK4.out; omega
                                            case rel => exact ⟨(wrap64 (x14_4 + 1)), (by first | rfl | (simp; done) | (simp [*]; done)), H', ⟨by have := HJ12.out; have := HJ31.out; have := HK3.out; have := HK4.out; omega⟩, ⟨by (with_reducible repeat (first | apply Kd.S_alloc | apply Kd.S_drewN | apply Kd.S_drew)); exact HO_5.out⟩, ⟨by (with_reducible repeat (first | apply Kd.R_alloc | apply Kd.R_drewN | apply Kd.R_drew)); exact HO_8.out⟩, ⟨by (with_reducible repeat (first | apply Kd.R_alloc | apply Kd.R_drewN | apply Kd.R_drew)); exact HO_10.out⟩, ⟨by (with_reducible repeat (first | apply Kd.R_alloc | apply Kd.R_drewN | apply Kd.R_drew)); exact HO_12.out⟩, ⟨by (with_reducible repeat (first | refine blk_drewN ?_ _ | refine blk_drew ?_ | refine blk_alloc ?_ _)); exact BK236.out⟩, ⟨by repeat (first | (with_reducible first | exact HB.out | apply below_alloc | apply pw_below_drewN | apply below_drew1 | refine below_set ?_ GE236.out) | exact HB.out)⟩⟩
                                    · rw [if_neg c53] at H
                                      have c53b0 : decide (x14_4 < (l0_0.length : Int)) = false := decide_eq_false c53
                                      clear c53
                                      by_cases c84 : t259 = 0
                                      · rw [if_pos c84] at H
                                        have c84b0 : (t259 == 0) = true := beq_iff_eq.mpr c84
                                        have c84b1 : (t259 != 0) = false := bne_eq_false_iff_eq.mpr c84
                                        clear c84
                                        have H' := Aside0.mk H
                                        clear H
                                        have hcz85_0 : wr.cell? ⟨gb236, 0, none⟩ = some (.slice A0_0 l0_0.length c0_0) := (blk_cell BK236.out 0).trans rfl
                                        have hcz85_1 : wr.cell? ⟨gb236, 1, none⟩ = some (.int .i64 a0_1) := (blk_cell BK236.out 1).trans rfl
                                        have hcz85_2 : wr.cell? ⟨gb236, 2, none⟩ = some (.slice (some ad247) l0_2.length c0_2) := (blk_cell BK236.out 2).trans rfl
                                        have hfz85_0 := blk_frozen BK236.out 0
                                        have hfz85_1 := blk_frozen BK236.out 1
                                        have hfz85_2 := blk_frozen BK236.out 2
                                        go_wp2
                                        go_roundg k4
                                        case measure => have := HJ12.out; have := HJ31.out; have := HK3.out; have := HK4.out; omega
                                        case rel => exact ⟨(t256), (wrap64 (x9_3 - 1)), (by first | rfl | (simp; done) | (simp [*]; done)), H', ⟨by have := HJ12.out; have := HJ31.out; have := HK3.out; have := HK4.out; omega⟩, ⟨by (with_reducible repeat (first | apply Kd.S_alloc | apply Kd.S_drewN | apply Kd.S_drew)); exact Kd.S_mono HO_5.out (fun _ hk => hk.2.1)⟩, ⟨by (with_reducible repeat (first | apply Kd.R_alloc | apply Kd.R_drewN | apply Kd.R_drew)); exact Kd.R_mono HO_10.out (fun _ hk => trivial)⟩, ⟨by (with_reducible repeat (first | refine blk_drewN ?_ _ | refine blk_drew ?_ | refine blk_alloc ?_ _)); exact BK236.out⟩, ⟨by repeat (first | (with_reducible first | exact HB.out | apply below_alloc | apply pw_below_drewN | apply below_drew1 | refine below_set ?_ GE236.out) | exact HB.out)⟩⟩
                                      · rw [if_neg c84] at H
                                        have c84b0 : (t259 == 0) = false := beq_eq_false_iff_ne.mpr c84
                                        have c84b1 : (t259 != 0) = true := bne_iff_ne.mpr c84
                                        obtain rfl := Option.some.inj H
                                        have hcz86_0 : wr.cell? ⟨gb236, 0, none⟩ = some (.slice A0_0 l0_0.length c0_0) := (blk_cell BK236.out 0).trans rfl
                                        have hcz86_1 : wr.cell? ⟨gb236, 1, none⟩ = some (.int .i64 a0_1) := (blk_cell BK236.out 1).trans rfl
                                        have hcz86_2 : wr.cell? ⟨gb236, 2, none⟩ = some (.slice (some ad247) l0_2.length c0_2) := (blk_cell BK236.out 2).trans rfl
                                        have hfz86_0 := blk_frozen BK236.out 0
                                        have hfz86_1 := blk_frozen BK236.out 1
                                        have hfz86_2 := blk_frozen BK236.out 2
                                        go_wp2
                                        go_ret
                                        exact ⟨by first | rfl | (simp [errW_none, errW_some] <;> rfl) | (simp [*, errW_none, errW_some] <;> rfl), by repeat (first | (with_reducible first | exact HB.out | apply below_alloc | apply pw_below_drewN | apply below_drew1 | refine below_set ?_ GE236.out) | exact HB.out)⟩
                              · rw [if_neg c45] at H
                                exact absurd H (by simp)
                            · rw [if_neg c44] at H
                              exact absurd H (by simp)
                          · rw [if_neg c42] at H
                            have c42b0 : decide (0 ≤ x9_3) = false := decide_eq_false c42
                            clear c42
                            by_cases c87 : 0 ≤ a1
                            · rw [if_pos c87] at H
                              have c87b0 : decide (0 ≤ a1) = true := decide_eq_true c87
                              clear c87
                              by_cases c88 : a1 < (t242.length : Int)
                              · rw [if_pos c88] at H
                                have c88b0 : decide (a1 < (t242.length : Int)) = true := decide_eq_true c88
                                clear c88
                                replace H := Option.bind_eq_some_iff.mp H
                                obtain ⟨t254, A890, H⟩ := H
                                replace H : (if t254 = true then ((turnstilelaw13_alive.f k3).bind fun t255 => (some t255)) else (some false)) = some r := H
                                have A89 := Aside0.mk A890
                                clear A890
                                by_cases c90 : t254 = true
                                · subst c90
                                  have H1 : ((turnstilelaw13_alive.f k3).bind fun t255 => (some t255)) = some r := by rw [if_pos rfl] at H; exact H
                                  clear H
                                  have H := H1
                                  clear H1
                                  replace H := Option.bind_eq_some_iff.mp H
                                  obtain ⟨t255, A910, H⟩ := H
                                  replace H : (some t255) = some r := H
                                  have A91 := Aside0.mk A910
                                  clear A910
                                  obtain rfl := Option.some.inj H
                                  have p253 : 0 ≤ (a1 : Int) := of_decide_eq_true (by first | (with_reducible assumption) | assumption)
                                  have q253 : a1 < (t242.length : Int) := of_decide_eq_true (by first | (with_reducible assumption) | assumption)
                                  obtain ⟨ad253, A253_0, c253_0, e253, hx253_0, hl253_0, hi253_0⟩ := at_L13 (Kd.S_reads' HO_5.out).2.2 a1 p253 q253
                                  cases e253
                                  obtain ⟨ce253, hce253, hMe253, hcc253⟩ := Kd.S_get HO_5.out [] a1 p253 (by first | exact q253 | exact of_decide_eq_true (by first | (with_reducible assumption) | assumption) | (have e_ := (Kd.S_reads' HO_5.out).1; omega))
                                  obtain ⟨ve253_0, rfl, ge253_0⟩ := hMe253
                                  have hv253_0 := hcc253 0 _ rfl
                                  rw [Nat.add_zero, show ((Kd.slice 3 (Kd.int .i64))).sz = 1 from rfl, Nat.mul_one] at hv253_0
                                  replace hv253_0 := Option.some.inj (hv253_0.symm.trans hx253_0)
                                  rw [hv253_0] at ge253_0
                                  have HL253_0 := Aside0.mk (show Kd.R (Kd.int .i64) 3 _ _ _ _ (rd_L13 t242 a1) from ge253_0)
                                  clear hv253_0 ge253_0
                                  clear hcc253 hce253
                                  have HR253_0 := Aside0.mk hi253_0
                                  have HC253_0 := Aside0.mk hl253_0
                                  clear hi253_0 hl253_0
                                  replace p253 := eq_true p253
                                  replace q253 := eq_true q253
                                  obtain ⟨Ao92, co92, eo92⟩ := Kd.R_slice HO_8.out
                                  subst eo92
                                  go_wp2_with (first | ((with_reducible refine gate_callee (f := 21) rfl ?_); refine goesL_ (some 132) rfl rfl Try.func21 (by kernel_rfl) rfl #[.slice Ao92 x8_3.length co92, .slice A253_0 (rd_L13 t242 a1).length c253_0] rfl (by (try simp only [List.map_toArray, List.map_cons, List.map_nil]); first | done | rfl | (simp only [List.length_drop, List.length_take]; rfl)) ?_; (with_reducible refine (turnstilelaw01_SameNumbers.calls k3 _ _ x8_3 _ _ (rd_L13 t242 a1) true _ ?side1 ?side2 ?side3 ?side4 A89.out).mono ?_); (case side1 => repeat (first | exact (Kd.R_reads' HO_8.out).2.2 | (with_reducible refine Kd.C_alloc ?_ _) | (with_reducible refine Kd.C_drewN ?_ _) | (with_reducible refine Kd.C_drew ?_))); (case side2 => exact (Kd.R_reads' HO_8.out).2.1); (case side3 => repeat (first | exact (by repeat (first | (with_reducible exact HR253_0.out) | (with_reducible refine Kd.C_alloc ?_ _) | (with_reducible refine Kd.C_drewN ?_ _) | (with_reducible refine Kd.C_drew ?_) | exact HR253_0.out)) | (with_reducible refine Kd.C_alloc ?_ _) | (with_reducible refine Kd.C_drewN ?_ _) | (with_reducible refine Kd.C_drew ?_))); (case side4 => exact HC253_0.out); rintro e w' ⟨rfl, ⟨nd, rfl⟩⟩; refine ⟨_, rfl, ?_⟩) | (go_at_call 16; (with_reducible refine (turnstilelaw13_alive.calls k3  t255 _ A91.out).mono ?_); rintro e w93 ⟨rfl, hb⟩; have n5_ := Aside0.mk (below_step (by repeat (first | (with_reducible first | exact HB.out | apply below_alloc | apply pw_below_drewN | apply below_drew1 | refine below_set ?_ GE236.out) | exact HB.out)) hb); clear HB; have HB := n5_; clear n5_))
                                  go_ret
                                  exact ⟨by first | rfl | (simp [errW_none, errW_some] <;> rfl) | (simp [*, errW_none, errW_some] <;> rfl), by repeat (first | (with_reducible first | exact HB.out | apply below_alloc | apply pw_below_drewN | apply below_drew1 | refine below_set ?_ GE236.out) | exact HB.out)⟩
                                · replace c90 := Bool.eq_false_iff.mpr c90
                                  subst c90
                                  have H1 : (some false) = some r := by rw [if_neg (show ¬ (false = true) by decide)] at H; exact H
                                  clear H
                                  have H := H1
                                  clear H1
                                  obtain rfl := Option.some.inj H
                                  have p253 : 0 ≤ (a1 : Int) := of_decide_eq_true (by first | (with_reducible assumption) | assumption)
                                  have q253 : a1 < (t242.length : Int) := of_decide_eq_true (by first | (with_reducible assumption) | assumption)
                                  obtain ⟨ad253, A253_0, c253_0, e253, hx253_0, hl253_0, hi253_0⟩ := at_L13 (Kd.S_reads' HO_5.out).2.2 a1 p253 q253
                                  cases e253
                                  obtain ⟨ce253, hce253, hMe253, hcc253⟩ := Kd.S_get HO_5.out [] a1 p253 (by first | exact q253 | exact of_decide_eq_true (by first | (with_reducible assumption) | assumption) | (have e_ := (Kd.S_reads' HO_5.out).1; omega))
                                  obtain ⟨ve253_0, rfl, ge253_0⟩ := hMe253
                                  have hv253_0 := hcc253 0 _ rfl
                                  rw [Nat.add_zero, show ((Kd.slice 3 (Kd.int .i64))).sz = 1 from rfl, Nat.mul_one] at hv253_0
                                  replace hv253_0 := Option.some.inj (hv253_0.symm.trans hx253_0)
                                  rw [hv253_0] at ge253_0
                                  have HL253_0 := Aside0.mk (show Kd.R (Kd.int .i64) 3 _ _ _ _ (rd_L13 t242 a1) from ge253_0)
                                  clear hv253_0 ge253_0
                                  clear hcc253 hce253
                                  have HR253_0 := Aside0.mk hi253_0
                                  have HC253_0 := Aside0.mk hl253_0
                                  clear hi253_0 hl253_0
                                  replace p253 := eq_true p253
                                  replace q253 := eq_true q253
                                  obtain ⟨Ao94, co94, eo94⟩ := Kd.R_slice HO_8.out
                                  subst eo94
                                  go_wp2_with (first | ((with_reducible refine gate_callee (f := 21) rfl ?_); refine goesL_ (some 132) rfl rfl Try.func21 (by kernel_rfl) rfl #[.slice Ao94 x8_3.length co94, .slice A253_0 (rd_L13 t242 a1).length c253_0] rfl (by (try simp only [List.map_toArray, List.map_cons, List.map_nil]); first | done | rfl | (simp only [List.length_drop, List.length_take]; rfl)) ?_; (with_reducible refine (turnstilelaw01_SameNumbers.calls k3 _ _ x8_3 _ _ (rd_L13 t242 a1) false _ ?side1 ?side2 ?side3 ?side4 A89.out).mono ?_); (case side1 => repeat (first | exact (Kd.R_reads' HO_8.out).2.2 | (with_reducible refine Kd.C_alloc ?_ _) | (with_reducible refine Kd.C_drewN ?_ _) | (with_reducible refine Kd.C_drew ?_))); (case side2 => exact (Kd.R_reads' HO_8.out).2.1); (case side3 => repeat (first | exact (by repeat (first | (with_reducible exact HR253_0.out) | (with_reducible refine Kd.C_alloc ?_ _) | (with_reducible refine Kd.C_drewN ?_ _) | (with_reducible refine Kd.C_drew ?_) | exact HR253_0.out)) | (with_reducible refine Kd.C_alloc ?_ _) | (with_reducible refine Kd.C_drewN ?_ _) | (with_reducible refine Kd.C_drew ?_))); (case side4 => exact HC253_0.out); rintro e w' ⟨rfl, ⟨nd, rfl⟩⟩; refine ⟨_, rfl, ?_⟩))
                                  go_ret
                                  exact ⟨by first | rfl | (simp [errW_none, errW_some] <;> rfl) | (simp [*, errW_none, errW_some] <;> rfl), by repeat (first | (with_reducible first | exact HB.out | apply below_alloc | apply pw_below_drewN | apply below_drew1 | refine below_set ?_ GE236.out) | exact HB.out)⟩
                              · rw [if_neg c88] at H
                                exact absurd H (by simp)
                            · rw [if_neg c87] at H
                              exact absurd H (by simp)
              · rw [if_neg c30] at H
                exact absurd H (by simp)
            · rw [if_neg c29] at H
              exact absurd H (by simp)
          · rw [if_neg c28] at H
            have c28b0 : ((t242.length : Int) == (l0_2.length : Int)) = false := beq_eq_false_iff_ne.mpr c28
            have c28b1 : ((t242.length : Int) != (l0_2.length : Int)) = true := bne_iff_ne.mpr c28
            have c28b2 : (t242.length == l0_2.length) = false := by first | simpa using c28 | (simp at c28 ⊢; omega)
            obtain rfl := Option.some.inj H
            obtain ⟨Ao95, co95, eo95⟩ := Kd.S_slice HO_5.out
            subst eo95
            have hcz96_0 : wc.cell? ⟨gb236, 0, none⟩ = some (.slice A0_0 l0_0.length c0_0) := (blk_cell BK236.out 0).trans rfl
            have hcz96_1 : wc.cell? ⟨gb236, 1, none⟩ = some (.int .i64 a0_1) := (blk_cell BK236.out 1).trans rfl
            have hcz96_2 : wc.cell? ⟨gb236, 2, none⟩ = some (.slice A0_2 l0_2.length c0_2) := (blk_cell BK236.out 2).trans rfl
            have hfz96_0 := blk_frozen BK236.out 0
            have hfz96_1 := blk_frozen BK236.out 1
            have hfz96_2 := blk_frozen BK236.out 2
            go_wp2
            go_ret
            exact ⟨by first | rfl | (simp [errW_none, errW_some] <;> rfl) | (simp [*, errW_none, errW_some] <;> rfl), by repeat (first | (with_reducible first | exact HB.out | apply below_alloc | apply pw_below_drewN | apply below_drew1 | refine below_set ?_ GE236.out) | exact HB.out)⟩
end Go.Proofs.Ytjmeignhhheckaa.Q
namespace Go.Proofs.Ytjmeignhhheckaa.H
open Go.RowKit Go.Maps Go.Proofs.YtjmeignhhheckaaW.PrintWords Go.Proofs.YtjmeignhhheckaaW.PrintLast Go.Proofs.Ytjmeignhhheckaa.Q
set_option maxRecDepth 100000
theorem w64 {x : Int} (h0 : -1000000000000000000 ≤ x) (h1 : x ≤ 1000000000000000000) : Go.RowKit.wrap64 x = x := by
  unfold Go.RowKit.wrap64; omega
theorem wstep {i : Nat} (h : i ≤ 500000000000000000) : Go.RowKit.wrap64 ((i : Int) + 1) = ((i + 1 : Nat) : Int) := by
  rw [w64 (by omega) (by omega)]; omega
theorem counted_some (x : Int) : ∃ t, turnstilelaw01_counted.f x = some t := by
  unfold turnstilelaw01_counted.f
  split
  · exact ⟨_, rfl⟩
  · exact ⟨_, rfl⟩
theorem size_l0 (xs : List Bool) (sites : Int) (bs : List S36) (hs : bs.length ≤ 140737488351232) : ∀ (d i k : Nat) (x : Int), i + d = bs.length → d < k → ∃ t, turnstilelaw01_GraphSize.l0 k x i xs sites bs = some t := by
  intro d
  induction d with
  | zero =>
    intro i k x hi hk
    obtain ⟨k, rfl⟩ : ∃ m, k = m + 1 := ⟨k - 1, by omega⟩
    simp only [turnstilelaw01_GraphSize.l0]
    rw [if_neg (by omega)]
    obtain ⟨t, ht⟩ := counted_some x
    rw [ht]
    exact ⟨t, rfl⟩
  | succ d ih =>
    intro i k x hi hk
    obtain ⟨k, rfl⟩ : ∃ m, k = m + 1 := ⟨k - 1, by omega⟩
    simp only [turnstilelaw01_GraphSize.l0]
    rw [if_pos (by omega)]
    split
    · rw [if_pos (by omega), wstep (by omega)]
      exact ih (i + 1) k _ (by omega) (by omega)
    · obtain ⟨t, ht⟩ := counted_some x
      rw [ht]
      exact ⟨t, rfl⟩
theorem size_f (xs : List Bool) (sites : Int) (bs : List S36) (hs : bs.length ≤ 140737488351232) (k : Nat) (hk : bs.length < k) : ∃ t, turnstilelaw01_GraphSize.f k xs sites bs = some t := by
  unfold turnstilelaw01_GraphSize.f
  exact size_l0 xs sites bs hs bs.length 0 k _ (by omega) (by omega)
theorem beyond_f (t : Int) (k : Nat) (hk : 10 ≤ k) : ∃ b, turnstilelaw01_Beyond.f k [t] = some b := by
  obtain ⟨k, rfl⟩ : ∃ m, k = m + 5 := ⟨k - 5, by omega⟩
  unfold turnstilelaw01_Beyond.f
  by_cases h : t < 0
  · exact ⟨true, by simp [turnstilelaw01_Beyond.l0, turnstilelaw01_Beyond.j1, rd, h]⟩
  · by_cases h2 : t > 262144
    · exact ⟨true, by simp [turnstilelaw01_Beyond.l0, turnstilelaw01_Beyond.j1, rd, h, h2]⟩
    · have hw : Go.RowKit.wrap64 t = t := w64 (by omega) (by omega)
      exact ⟨false, by simp [turnstilelaw01_Beyond.l0, turnstilelaw01_Beyond.j1, rd, h, h2, hw, show Go.RowKit.wrap64 1 = 1 from w64 (by omega) (by omega)]⟩
theorem has_l0 (l : List Int) (a : Int) (hl : l.length ≤ 1000000) : ∀ (d i k : Nat), i + d = l.length → d < k → turnstilelaw13_has.l0 k l a i = some (decide (a ∈ l.drop i)) := by
  intro d
  induction d with
  | zero =>
    intro i k hi hk
    obtain ⟨k, rfl⟩ : ∃ m, k = m + 1 := ⟨k - 1, by omega⟩
    simp only [turnstilelaw13_has.l0]
    rw [if_neg (by omega), List.drop_of_length_le (by omega)]
    simp
  | succ d ih =>
    intro i k hi hk
    obtain ⟨k, rfl⟩ : ∃ m, k = m + 1 := ⟨k - 1, by omega⟩
    simp only [turnstilelaw13_has.l0]
    rw [if_pos (by omega), if_pos (by omega), drop_at l i 0 (by omega)]
    have hrd : rd l (i : Int) = l.getD i 0 := rfl
    rw [hrd]
    by_cases e : l.getD i 0 = a
    · rw [if_pos e]
      congr 1
      exact (decide_eq_true (by rw [← e]; exact List.mem_cons_self)).symm
    · rw [if_neg e, wstep (by omega), ih (i + 1) k (by omega) (by omega)]
      congr 1
      apply decide_eq_decide.2
      rw [List.mem_cons]
      exact ⟨.inr, fun h => h.resolve_left (fun h => e h.symm)⟩
theorem has_f (l : List Int) (a : Int) (hl : l.length ≤ 1000000) (k : Nat) (hk : l.length < k) : turnstilelaw13_has.f k l a = some (decide (a ∈ l)) := by
  unfold turnstilelaw13_has.f
  have := has_l0 l a hl l.length 0 k (by omega) hk
  simpa using this
theorem same_l0 (l : List Int) (hl : l.length ≤ 1000000) : ∀ (d i k : Nat), i + d = l.length → d < k → turnstilelaw01_SameNumbers.l0 k l l (l.length : Int) i = some true := by
  intro d
  induction d with
  | zero =>
    intro i k hi hk
    obtain ⟨k, rfl⟩ : ∃ m, k = m + 1 := ⟨k - 1, by omega⟩
    simp only [turnstilelaw01_SameNumbers.l0]
    rw [if_neg (by omega)]
  | succ d ih =>
    intro i k hi hk
    obtain ⟨k, rfl⟩ : ∃ m, k = m + 1 := ⟨k - 1, by omega⟩
    simp only [turnstilelaw01_SameNumbers.l0]
    rw [if_pos (by omega), if_pos (by omega), if_pos (by omega), if_pos (by omega), if_pos trivial, wstep (by omega)]
    exact ih (i + 1) k (by omega) (by omega)
theorem same_f (l : List Int) (hl : l.length ≤ 1000000) (k : Nat) (hk : l.length < k) : turnstilelaw01_SameNumbers.f k l l = some true := by
  unfold turnstilelaw01_SameNumbers.f
  rw [if_pos rfl]
  exact same_l0 l hl l.length 0 k (by omega) hk
theorem reads_f (x : S46) (k : Nat) (hk : 5 ≤ k) : turnstileref09_Reads.f k x.f0 x.f1 x.f2 x.f3 x.f4 x.f5 = some (asksS x) := by
  obtain ⟨k, rfl⟩ : ∃ m, k = m + 5 := ⟨k - 5, by omega⟩
  have h4 : (x.f4 < 0) = ¬ (0 ≤ x.f4) := by simp
  unfold turnstileref09_Reads.f asksS
  by_cases a : x.f0 = 2
  · simp [a, turnstileref09_Reads.j0]
  by_cases b : x.f0 = 4
  · simp [b, turnstileref09_Reads.j0]
  by_cases c : x.f0 = 5
  · simp [c, turnstileref09_Reads.j0]
  by_cases d : x.f0 = 12
  · simp [d, turnstileref09_Reads.j0]
  by_cases e : x.f0 = 3
  · simp [e, turnstileref09_Reads.j0]
  by_cases f : x.f0 = 8
  · by_cases h : 0 ≤ x.f4
    · simp [f, turnstileref09_Reads.j0, turnstileref09_Reads.j1, h, show ¬ x.f4 < 0 from by omega]
    · simp [f, turnstileref09_Reads.j0, turnstileref09_Reads.j1, h, show x.f4 < 0 from by omega]
  by_cases g : x.f0 = 10
  · by_cases h : 0 ≤ x.f4
    · simp [g, turnstileref09_Reads.j0, turnstileref09_Reads.j1, h, show ¬ x.f4 < 0 from by omega]
    · simp [g, turnstileref09_Reads.j0, turnstileref09_Reads.j1, h, show x.f4 < 0 from by omega]
  by_cases i : x.f0 = 9
  · by_cases h : 0 ≤ x.f4
    · simp [i, turnstileref09_Reads.j0, turnstileref09_Reads.j1, turnstileref09_Reads.j2, h, show ¬ x.f4 < 0 from by omega]
    · simp [i, turnstileref09_Reads.j0, turnstileref09_Reads.j1, turnstileref09_Reads.j2, h, show x.f4 < 0 from by omega]
  by_cases j : x.f0 = 11
  · by_cases h : 0 ≤ x.f4
    · simp [j, turnstileref09_Reads.j0, turnstileref09_Reads.j1, turnstileref09_Reads.j2, h, show ¬ x.f4 < 0 from by omega]
    · simp [j, turnstileref09_Reads.j0, turnstileref09_Reads.j1, turnstileref09_Reads.j2, h, show x.f4 < 0 from by omega]
  simp [a, b, c, d, e, f, g, i, j, turnstileref09_Reads.j0, turnstileref09_Reads.j1, turnstileref09_Reads.j2]
def wrS (x : S46) : Int := if (chgS x).2 then (chgS x).1 else -1
theorem writes_f (x : S46) : turnstileref09_Writes.f x.f0 x.f1 x.f2 x.f3 x.f4 x.f5 = some (wrS x) := by
  unfold turnstileref09_Writes.f wrS chgS
  by_cases a : x.f0 = 1
  · simp [a]
  by_cases b : x.f0 = 2
  · simp [b]
  by_cases c : x.f0 = 3
  · simp [c]
  by_cases d : x.f0 = 6
  · simp [d]
  by_cases e : x.f0 = 7
  · simp [e]
  by_cases f : x.f0 = 8
  · simp [f]
  by_cases g : x.f0 = 10
  · simp [g]
  simp [a, b, c, d, e, f, g]
theorem asks_len (x : S46) : (asksS x).length ≤ 3 := by
  unfold asksS
  repeat' split
  all_goals simp
theorem listS_len (s : List Nat) : (listS s).length ≤ 1024 := by
  unfold listS
  rw [List.length_map]
  exact lstTo_le s 1024
theorem mem_listS {s : List Nat} (hs : okW s) (q : Nat) : (q : Int) ∈ listS s ↔ hasW s q = true := by
  unfold listS
  rw [List.mem_map, ← mem_lst s hs]
  constructor
  · rintro ⟨a, ha, e⟩
    have : a = q := by omega
    exact this ▸ ha
  · intro h
    exact ⟨q, h, rfl⟩
theorem alive_50 : turnstilelaw13_alive.f 50 = some true := by kernel_rfl
theorem alive_f (k : Nat) (hk : 50 ≤ k) : turnstilelaw13_alive.f k = some true := by
  obtain ⟨d, rfl⟩ : ∃ d, k = 50 + d := ⟨k - 50, by omega⟩
  induction d with
  | zero => exact alive_50
  | succ d ih => exact turnstilelaw13_alive.mono (50 + d) _ (ih (by omega))
/-- which are live ahead of an instruction -/
theorem step_mem {x : S46} {n : Nat} (hx : regOk x) {s : List Nat} (hs : okW s) (q : Nat) : decide ((q : Int) ∈ listS (stepW x s)) = (decide ((q : Int) ∈ asksS x) || (decide ((q : Int) ∈ listS s) && ((q : Int) != wrS x))) := by
  have h := step_has x hx s hs
  have e1 : decide ((q : Int) ∈ listS (stepW x s)) = hasW (stepW x s) q := by
    have := mem_listS h.1 q
    cases hh : hasW (stepW x s) q with
    | true => exact decide_eq_true (this.2 hh)
    | false => exact decide_eq_false (fun hm => by rw [this.1 hm] at hh; cases hh)
  have e2 : decide ((q : Int) ∈ listS s) = hasW s q := by
    have := mem_listS hs q
    cases hh : hasW s q with
    | true => exact decide_eq_true (this.2 hh)
    | false => exact decide_eq_false (fun hm => by rw [this.1 hm] at hh; cases hh)
  rw [e1, e2, h.2 q]
  congr 2
  unfold wrS
  cases hc : (chgS x).2 with
  | true =>
    simp only [Bool.true_and, if_true]
    by_cases e : (q : Int) = (chgS x).1
    · simp [e]
    · simp [e]
  | false =>
    simp only [Bool.false_and, Bool.not_false, Bool.false_eq_true, if_false]
    symm
    rw [bne_iff_ne]
    omega
section
variable {xs : List Bool} {sites : Int} {bs : List S36}
theorem at_f (hs : smallG bs) (hE : gE xs sites bs = 0) (b i : Nat) (hb : b < bs.length) (hi : i ≤ (rd_T36 bs (b : Nat)).f0.length) : live_At.f xs sites bs b i = some (listS (aheadW (rd_T36 bs (b : Nat)) i (setsS bs)), 0) := by
  unfold live_At.f atS
  rw [if_pos hs, if_neg (fun h => h hE)]
  have : thereB bs b i = true := decide_eq_true ⟨by omega, by omega, by omega, by omega⟩
  rw [this, if_pos rfl, Int.toNat_natCast]
theorem l1_f (hn : xs.length ≤ 1024) (x : S46) (hx : regOk x) (s : List Nat) (hs : okW s) (x1 : Int) (x5 : List (List Int)) (x7 : List S46) (x9 : Int) : ∀ (d r k : Nat), r + d = xs.length → 1100 ≤ k →
    turnstilelaw13_LiveSteps.l1 (k + d + 1) x1 x5 x7 (listS s) x9 (listS (stepW x s)) 0 (asksS x) (wrS x) r xs sites bs = turnstilelaw13_LiveSteps.l0 k x1 x5 x7 (listS (stepW x s)) (Go.RowKit.wrap64 (x9 - 1)) xs sites bs := by
  intro d
  induction d with
  | zero =>
    intro r k hr hk
    simp only [turnstilelaw13_LiveSteps.l1]
    rw [if_neg (by omega), if_pos trivial]
  | succ d ih =>
    intro r k hr hk
    have h1 := listS_len s
    have h2 := listS_len (stepW x s)
    have h3 := asks_len x
    rw [show k + (d + 1) + 1 = (k + d + 1) + 1 from by omega]
    conv => lhs; unfold turnstilelaw13_LiveSteps.l1
    rw [if_pos (by omega), has_f _ _ (by omega) _ (by omega), Option.bind_some, has_f _ _ (by omega) _ (by omega), Option.bind_some]
    have hm := step_mem (n := 0) hx hs r
    have hih := ih (r + 1) k (by omega) hk
    rw [wstep (by omega)]
    by_cases ha : (r : Int) ∈ asksS x
    · rw [decide_eq_true ha, Bool.true_or] at hm
      rw [decide_eq_true ha, if_pos rfl, hm, if_neg (by decide)]
      exact hih
    · rw [decide_eq_false ha, Bool.false_or] at hm
      rw [decide_eq_false ha, if_neg (by decide), has_f _ _ (by omega) _ (by omega), Option.bind_some, hm]
      by_cases hb : (r : Int) ∈ listS s
      · rw [decide_eq_true hb, if_pos rfl, Bool.true_and, if_neg (by simp)]
        exact hih
      · rw [decide_eq_false hb, if_neg (by decide), Bool.false_and, if_neg (by decide)]
        exact hih
theorem l0_f (G : GOk xs bs) (hs : smallG bs) (hE : gE xs sites bs = 0) (b : Nat) (hb : b < bs.length) : ∀ (i : Nat), i ≤ (rd_T36 bs (b : Nat)).f0.length → ∀ k, 2000 ≤ k →
    turnstilelaw13_LiveSteps.l0 (k + i * (xs.length + 2)) b ((setsS bs).map listS) (rd_T36 bs (b : Nat)).f0 (listS (aheadW (rd_T36 bs (b : Nat)) i (setsS bs))) ((i : Int) - 1) xs sites bs = some true := by
  have hsp := setsS_spec G.blk
  have hlen := hsp.2.1.len
  have hlb : (rd_T36 bs (b : Nat)).f0.length ≤ 8192 := Nat.le_trans (ins_le_total (getD_mem (by omega))) G.tot
  intro i
  induction i with
  | zero =>
    intro _ k hk
    obtain ⟨k, rfl⟩ : ∃ m, k = m + 1 := ⟨k - 1, by omega⟩
    rw [show k + 1 + 0 * (xs.length + 2) = k + 1 from by omega]
    conv => lhs; unfold turnstilelaw13_LiveSteps.l0
    rw [if_neg (by omega), if_pos (by omega), if_pos (by rw [List.length_map, hlen]; omega)]
    have hrow : rd_L13 ((setsS bs).map listS) (b : Nat) = listS (aheadW (rd_T36 bs (b : Nat)) 0 (setsS bs)) := by
      have h3 : aheadW (rd_T36 bs (b : Nat)) 0 (setsS bs) = (setsS bs).getD b [] := hsp.2.2 b hb
      rw [h3]
      unfold rd_L13
      rw [Int.toNat_natCast, List.getD_eq_getElem?_getD, List.getD_eq_getElem?_getD, List.getElem?_map, List.getElem?_eq_getElem (by rw [hlen]; exact hb)]
      rfl
    have h1 := listS_len (aheadW (rd_T36 bs (b : Nat)) 0 (setsS bs))
    rw [hrow, same_f _ (by omega) k (by omega), Option.bind_some, if_pos rfl, alive_f k (by omega), Option.bind_some]
  | succ i ih =>
    intro hi k hk
    rw [show k + (i + 1) * (xs.length + 2) = (k + i * (xs.length + 2) + xs.length + 1) + 1 from by rw [Nat.add_mul]; omega]
    conv => lhs; unfold turnstilelaw13_LiveSteps.l0
    have hx : regOk (rd_T46 (rd_T36 bs (b : Nat)).f0 (i : Nat)) := (G.blk _ (getD_mem (by omega))).rg _ (getD_mem (show ((i : Int)).toNat < (rd_T36 bs (b : Nat)).f0.length from by omega))
    have hok : okW (aheadW (rd_T36 bs (b : Nat)) (i + 1) (setsS bs)) := ahead_ok (G.blk _ (getD_mem (by omega))) hsp.2.1 _
    have hah : aheadW (rd_T36 bs (b : Nat)) i (setsS bs) = stepW (rd_T46 (rd_T36 bs (b : Nat)).f0 (i : Nat)) (aheadW (rd_T36 bs (b : Nat)) (i + 1) (setsS bs)) := by
      unfold aheadW
      rw [drop46 (rd_T36 bs (b : Nat)).f0 i (by omega)]
      rfl
    rw [show (((i + 1 : Nat) : Int)) - 1 = (i : Int) from by omega]
    rw [if_pos (by omega), at_f hs hE b i hb (by omega), Option.bind_some, if_pos (by omega), if_pos (by omega), reads_f _ _ (by omega), Option.bind_some, writes_f, Option.bind_some]
    dsimp only
    have h1 := l1_f (xs := xs) (sites := sites) (bs := bs) G.nx _ hx _ hok (b : Int) ((setsS bs).map listS) (rd_T36 bs (b : Nat)).f0 (i : Int) xs.length 0 (k + i * (xs.length + 2)) (by omega) (by omega)
    rw [w64 (by omega) (by omega), ← hah] at h1
    exact h1.trans (ih (by omega) k hk)
theorem j0_yes (k : Nat) (hk : 50 ≤ k) (x1 : Int) (x5 : List (List Int)) : turnstilelaw13_LiveSteps.j0 (k + 1) x1 x5 true xs sites bs = some true := by
  simp only [turnstilelaw13_LiveSteps.j0, if_true]
  rw [alive_f k hk, Option.bind_some]
theorem j1_no (k : Nat) (x1 : Int) (x5 : List (List Int)) (x7 : List S46) (x8 : List Int) : turnstilelaw13_LiveSteps.j1 (k + 1) x1 x5 x7 x8 false xs sites bs = turnstilelaw13_LiveSteps.l0 k x1 x5 x7 x8 (Go.RowKit.wrap64 ((x7.length : Int) - 1)) xs sites bs := by
  simp only [turnstilelaw13_LiveSteps.j1]
  rw [if_neg (by decide)]
theorem j0_no (k : Nat) (b : Nat) (hb : b < bs.length) (x5 : List (List Int)) (h5 : x5.length = bs.length) (r : List Int) (hr : live_At.f xs sites bs b (rd_T36 bs (b : Nat)).f0.length = some (r, 0)) (h3 : (rd_T36 bs (b : Nat)).f1 = 3 → r = []) :
    turnstilelaw13_LiveSteps.j0 (k + 1) b x5 false xs sites bs = turnstilelaw13_LiveSteps.j1 k b x5 (rd_T36 bs (b : Nat)).f0 r false xs sites bs := by
  simp only [turnstilelaw13_LiveSteps.j0]
  rw [if_neg (by decide), if_pos (by omega), if_pos (by omega), if_pos (by omega), hr, Option.bind_some]
  dsimp only
  rw [if_pos rfl]
  by_cases h : (rd_T36 bs (b : Nat)).f1 = 3
  · rw [if_pos h, decide_eq_false (by rw [h3 h]; decide)]
  · rw [if_neg h]
theorem end_halt {b : S36} (h : b.f1 = 3) (ins : List (List Nat)) : aheadW b b.f0.length ins = zeroW := by
  unfold aheadW endW nexts
  rw [List.drop_length]
  simp [h]
theorem listS_zero : listS zeroW = [] := by
  unfold listS lstTo
  rw [List.filter_eq_nil_iff.2 (fun q _ => by rw [hasW_zero]; decide)]
  rfl
theorem liveSteps_pure (xs : List Bool) (sites : Int) (bs : List S36) (hs : smallG bs) (a : Int) : ∃ k, turnstilelaw13_LiveSteps.f k xs sites bs a = some true := by
  obtain ⟨K, hK⟩ : ∃ K, K = bs.length + 20000000 := ⟨_, rfl⟩
  refine ⟨K + 3, ?_⟩
  unfold turnstilelaw13_LiveSteps.f
  obtain ⟨t, ht⟩ := size_f xs sites bs hs.1 (K + 3) (by omega)
  rw [ht, Option.bind_some]
  obtain ⟨c, hc⟩ := beyond_f t (K + 3) (by omega)
  rw [hc, Option.bind_some]
  cases c with
  | true => rw [if_pos rfl]
  | false =>
    rw [if_neg (by decide)]
    have hal : ∀ x5, turnstilelaw13_LiveSteps.j0 (K + 3) a x5 true xs sites bs = some true := fun x5 => j0_yes (K + 2) (by omega) a x5
    unfold live_In.f
    rw [if_pos hs, Option.bind_some]
    by_cases hE : gE xs sites bs = 0
    · have G := gE_gok hE
      have hsp := setsS_spec G.blk
      have hin : inS xs sites bs = ((setsS bs).map listS, 0) := by
        unfold inS
        rw [if_neg (fun h => h hE)]
      rw [hin]
      dsimp only
      rw [if_pos rfl]
      by_cases h0 : a < 0
      · rw [if_pos h0]; exact hal _
      · rw [if_neg h0]
        by_cases h1 : a ≥ (bs.length : Int)
        · rw [decide_eq_true h1]; exact hal _
        · rw [decide_eq_false h1]
          obtain ⟨b, rfl⟩ := Int.eq_ofNat_of_zero_le (show 0 ≤ a from by omega)
          have hb : b < bs.length := by omega
          have hlb : (rd_T36 bs (b : Nat)).f0.length ≤ 8192 := Nat.le_trans (ins_le_total (getD_mem (by omega))) G.tot
          have hl0 := l0_f G hs hE b hb (rd_T36 bs (b : Nat)).f0.length (Nat.le_refl _) (K + 1 - (rd_T36 bs (b : Nat)).f0.length * (xs.length + 2)) (by
            have : (rd_T36 bs (b : Nat)).f0.length * (xs.length + 2) ≤ 8192 * 1026 := Nat.mul_le_mul hlb (by have := G.nx; omega)
            omega)
          rw [Nat.sub_add_cancel (by
            have : (rd_T36 bs (b : Nat)).f0.length * (xs.length + 2) ≤ 8192 * 1026 := Nat.mul_le_mul hlb (by have := G.nx; omega)
            omega)] at hl0
          refine (j0_no (K + 2) b hb _ (by rw [List.length_map, hsp.2.1.len]) _ (at_f hs hE b _ hb (Nat.le_refl _)) (fun h3 => by rw [end_halt h3, listS_zero])).trans ?_
          refine (j1_no (K + 1) _ _ _ _).trans ?_
          rw [w64 (by omega) (by omega)]
          exact hl0
    · have hin : inS xs sites bs = ([], gE xs sites bs) := by
        unfold inS
        rw [if_pos hE]
      rw [hin]
      dsimp only
      rw [if_neg hE]
      exact hal _
end
end Go.Proofs.Ytjmeignhhheckaa.H
namespace Go.Proofs.Ytjmeignhhheckaa.H
open Go.RowKit Go.Maps Go.Proofs.YtjmeignhhheckaaW.PrintWords Go.Proofs.YtjmeignhhheckaaW.PrintLast Go.Proofs.Ytjmeignhhheckaa.Q
set_option maxRecDepth 100000
section
variable {H : Type} {enc : TypeId × Value → H} {w : World} {base : Nat} {spare : Nat → Bool} {held : Bool}
/-- a slice of whatever elements, opened at once -/
theorem open_C {α : Type} [Inhabited α] (d : Kd α) {t e : TypeId} (R : DataW H → α → Prop) (ht : Try.prog.underlying t = some (.slice e)) (hsz : Try.prog.cellsOf e = d.sz)
    (hel : ∀ (n : Nat) (cs' : List Value) (D : DataW H) (Pl : List MemPlace), cs'.length = d.sz → DataW.trod enc Try.prog w base spare held n e cs' = some (D, Pl) → ∃ x : α, d.K w x cs' ∧ R D x)
    {fuel : Nat} {cs : List Value} {x : DataW H × List MemPlace} (h : DataW.trod enc Try.prog w base spare held fuel t cs = some x) :
    ∃ (A : Option Addr) (c : Nat) (xs : List α), cs = [.slice A xs.length c] ∧ xs.length ≤ c ∧ d.C w A xs.length xs ∧ (xs = [] ∨ ∃ elems spr, x.1 = .slice elems spr ∧ elems.length = xs.length ∧ ∀ p ∈ xs, ∃ D ∈ elems, R D p) := by
  rcases Go.Deep.open_slice ht h with ⟨rfl, rfl⟩ | ⟨a, len, cap, m, n, D, Pl, rfl, hb, hl, hm, hmm, rfl, hi⟩
  · exact ⟨none, 0, [], rfl, Nat.le_refl _, ⟨rfl, Nat.zero_le _, fun h => absurd h (Nat.lt_irrefl _)⟩, .inl rfl⟩
  · have hle : len ≤ m := by rw [hmm]; split <;> omega
    have hx : ∀ i, i < len → ∃ x : α, (∃ cs', w.cells? base (a.add (i * d.sz)) d.sz = some cs' ∧ d.K w x cs') ∧ R (D i) x := by
      intro i hil
      obtain ⟨cs', h1, h2⟩ := hi i (by omega)
      rw [hsz] at h1
      have hc := World.cells?_some h1
      obtain ⟨x, h3, h4⟩ := hel n cs' (D i) (Pl i) hc.2.1 h2
      exact ⟨x, ⟨cs', h1, h3⟩, h4⟩
    obtain ⟨f, hf⟩ := Go.Deep.choose_lt hx
    have hlen : ((List.range len).map f).length = len := by simp
    refine ⟨some a, cap, (List.range len).map f, by rw [hlen], by rw [hlen]; exact hl, ⟨rfl, by rw [hlen]; have := hm; unfold maxLen at this; omega, fun _ => ⟨a, rfl, fun j p hj => ?_⟩⟩, .inr ⟨_, _, rfl, by simp, fun p hp => ?_⟩⟩
    · have hjl : j < len := by
        have := (List.getElem?_eq_some_iff.1 hj).1
        rwa [hlen] at this
      have hpe : p = f j := by
        rw [List.getElem?_map, List.getElem?_range hjl] at hj
        exact (Option.some.inj hj).symm
      subst hpe
      obtain ⟨⟨cs', h1, h2⟩, _⟩ := hf j hjl
      have hc := World.cells?_some h1
      refine ⟨cs', hc.2.1, h2, fun i u hu => ?_⟩
      have hiu := (List.getElem?_eq_some_iff.1 hu).1
      rw [← Go.Deep.add_add, hc.2.2 i (by rw [← hc.2.1]; exact hiu)]
      exact hu
    · rw [List.mem_map] at hp
      obtain ⟨j, hj, rfl⟩ := hp
      have hjl := List.mem_range.1 hj
      exact ⟨D j, List.mem_map.2 ⟨j, hj, rfl⟩, (hf j hjl).2⟩
instance : Inhabited S46 := ⟨z46⟩
instance : Inhabited S36 := ⟨z36⟩
theorem len6 {cs : List Value} (h : cs.length = 6) : ∃ a b c d e f, cs = [a, b, c, d, e, f] := by
  match cs, h with
  | [a, b, c, d, e, f], _ => exact ⟨a, b, c, d, e, f, rfl⟩
theorem len5 {cs : List Value} (h : cs.length = 5) : ∃ a b c d e, cs = [a, b, c, d, e] := by
  match cs, h with
  | [a, b, c, d, e], _ => exact ⟨a, b, c, d, e, rfl⟩
theorem cells46 : Try.prog.cellsOf 46 = 6 := by kernel_rfl
theorem cells36 : Try.prog.cellsOf 36 = 5 := by kernel_rfl
theorem cells43 : Try.prog.cellsOf 43 = 1 := by kernel_rfl
theorem cells44 : Try.prog.cellsOf 44 = 1 := by kernel_rfl
theorem cells34 : Try.prog.cellsOf 34 = 1 := by kernel_rfl
theorem cells33 : Try.prog.cellsOf 33 = 1 := by kernel_rfl
theorem cells3 : Try.prog.cellsOf 3 = 1 := by kernel_rfl
theorem cells2 : Try.prog.cellsOf 2 = 1 := by kernel_rfl
theorem cells4 : Try.prog.cellsOf 4 = 1 := by kernel_rfl
theorem ins_K (n : Nat) (cs : List Value) (D : DataW H) (Pl : List MemPlace) (hl : cs.length = 6) (h : DataW.trod enc Try.prog w base spare held n 46 cs = some (D, Pl)) : ∃ x : S46, k46.K w x cs ∧ True := by
  obtain ⟨c0, c1, c2, c3, c4, c5, rfl⟩ := len6 hl
  obtain ⟨xs, m, _, _, _, hxl, hf⟩ := DataW.trod_struct Try.underlying46 h
  have g0 : DataW.trod enc Try.prog w base spare held m 43 (([c0, c1, c2, c3, c4, c5].drop 0).take (Try.prog.cellsOf 43)) = xs[0]? := hf 0 _ rfl
  have g1 : DataW.trod enc Try.prog w base spare held m 44 (([c0, c1, c2, c3, c4, c5].drop 1).take (Try.prog.cellsOf 44)) = xs[1]? := hf 1 _ rfl
  have g2 : DataW.trod enc Try.prog w base spare held m 3 (([c0, c1, c2, c3, c4, c5].drop 2).take (Try.prog.cellsOf 3)) = xs[2]? := hf 2 _ rfl
  have g3 : DataW.trod enc Try.prog w base spare held m 3 (([c0, c1, c2, c3, c4, c5].drop 3).take (Try.prog.cellsOf 3)) = xs[3]? := hf 3 _ rfl
  have g4 : DataW.trod enc Try.prog w base spare held m 3 (([c0, c1, c2, c3, c4, c5].drop 4).take (Try.prog.cellsOf 3)) = xs[4]? := hf 4 _ rfl
  have g5 : DataW.trod enc Try.prog w base spare held m 2 (([c0, c1, c2, c3, c4, c5].drop 5).take (Try.prog.cellsOf 2)) = xs[5]? := hf 5 _ rfl
  rw [cells43] at g0
  rw [cells44] at g1
  rw [cells3] at g2 g3 g4
  rw [cells2] at g5
  rw [List.getElem?_eq_getElem (by rw [hxl]; decide)] at g0 g1 g2 g3 g4 g5
  obtain ⟨a0, h0, _, _⟩ := DataW.trod_int Try.underlying43 g0
  obtain ⟨a1, h1, _, _⟩ := DataW.trod_int Try.underlying44 g1
  obtain ⟨a2, h2, _, _⟩ := DataW.trod_int Try.underlying3 g2
  obtain ⟨a3, h3, _, _⟩ := DataW.trod_int Try.underlying3 g3
  obtain ⟨a4, h4, _, _⟩ := DataW.trod_int Try.underlying3 g4
  obtain ⟨a5, h5, _, _⟩ := DataW.trod_int Try.underlying2 g5
  simp only [List.drop_zero, List.drop_succ_cons, List.take_succ_cons, List.take_zero, List.cons.injEq, and_true] at h0 h1 h2 h3 h4 h5
  subst h0 h1 h2 h3 h4 h5
  exact ⟨⟨a0, a1, a2, a3, a4, a5⟩, k46_mk w _, trivial⟩
/-- how much a list of instructions weighs -/
def lightI (D : DataW H) (x : S36) : Prop := (∀ n ∈ D.weights Try.prog 36, n ≤ reachBytes) → x.f0.length ≤ 140737488351232
theorem blk_K (n : Nat) (cs : List Value) (D : DataW H) (Pl : List MemPlace) (hl : cs.length = 5) (h : DataW.trod enc Try.prog w base spare held n 36 cs = some (D, Pl)) : ∃ x : S36, k36.K w x cs ∧ lightI D x := by
  obtain ⟨c0, c1, c2, c3, c4, rfl⟩ := len5 hl
  obtain ⟨xs, m, _, hD, _, hxl, hf⟩ := DataW.trod_struct Try.underlying36 h
  have g0 : DataW.trod enc Try.prog w base spare held m 33 (([c0, c1, c2, c3, c4].drop 0).take (Try.prog.cellsOf 33)) = xs[0]? := hf 0 _ rfl
  have g1 : DataW.trod enc Try.prog w base spare held m 34 (([c0, c1, c2, c3, c4].drop 1).take (Try.prog.cellsOf 34)) = xs[1]? := hf 1 _ rfl
  have g2 : DataW.trod enc Try.prog w base spare held m 3 (([c0, c1, c2, c3, c4].drop 2).take (Try.prog.cellsOf 3)) = xs[2]? := hf 2 _ rfl
  have g3 : DataW.trod enc Try.prog w base spare held m 3 (([c0, c1, c2, c3, c4].drop 3).take (Try.prog.cellsOf 3)) = xs[3]? := hf 3 _ rfl
  have g4 : DataW.trod enc Try.prog w base spare held m 3 (([c0, c1, c2, c3, c4].drop 4).take (Try.prog.cellsOf 3)) = xs[4]? := hf 4 _ rfl
  rw [cells33] at g0
  rw [cells34] at g1
  rw [cells3] at g2 g3 g4
  have hx5 : ∃ x0 x1 x2 x3 x4, xs = [x0, x1, x2, x3, x4] := by
    match xs, hxl with
    | [a, b, c, d, e], _ => exact ⟨a, b, c, d, e, rfl⟩
  obtain ⟨x0, x1, x2, x3, x4, rfl⟩ := hx5
  obtain ⟨A, c, is, h0, hc0, hC, hw⟩ := open_C k46 (fun _ _ => True) Try.underlying33 (cells46.trans rfl) (fun n cs' D Pl hl h => ins_K n cs' D Pl hl h) g0
  obtain ⟨a1, h1, _, _⟩ := DataW.trod_int Try.underlying34 g1
  obtain ⟨a2, h2, _, _⟩ := DataW.trod_int Try.underlying3 g2
  obtain ⟨a3, h3, _, _⟩ := DataW.trod_int Try.underlying3 g3
  obtain ⟨a4, h4, _, _⟩ := DataW.trod_int Try.underlying3 g4
  simp only [List.drop_zero, List.drop_succ_cons, List.take_succ_cons, List.take_zero, List.cons.injEq, and_true] at h0 h1 h2 h3 h4
  subst h0 h1 h2 h3 h4
  refine ⟨⟨is, a1, a2, a3, a4⟩, k36_mk w ⟨is, a1, a2, a3, a4⟩ hc0 hC, fun hwt => ?_⟩
  rcases hw with rfl | ⟨elems, spr, he, hle, _⟩
  · exact Nat.zero_le _
  · have hD1 := congrArg Prod.fst hD
    dsimp only at hD1
    subst hD1
    have hb : Try.prog.bytesOf 46 = 40 := by kernel_rfl
    have := hwt ((elems.length + spr.length) * 40) (by
      simp only [DataW.weights, Try.underlying36, List.map_cons, List.map_nil]
      simp [DataW.weightsEach, DataW.weights, he, Try.underlying33, hb])
    have hr := reachBytes_lt
    show is.length ≤ _
    omega
theorem weights_in {P : Program} {e : TypeId} {n : Nat} {D : DataW H} : ∀ {l : List (DataW H)}, D ∈ l → n ∈ D.weights P e → n ∈ DataW.weightsAll P e l := by
  intro l
  induction l with
  | nil => intro h; cases h
  | cons a l ih =>
    intro h hn
    rw [DataW.weightsAll, List.mem_append]
    rcases List.mem_cons.1 h with rfl | h
    · exact .inl hn
    · exact .inr (ih h hn)
theorem bool_K (n : Nat) (cs : List Value) (D : DataW H) (Pl : List MemPlace) (hl : cs.length = 1) (h : DataW.trod enc Try.prog w base spare held n 4 cs = some (D, Pl)) : ∃ x : Bool, Kd.bool.K w x cs ∧ True := by
  obtain ⟨b, rfl, _⟩ := DataW.trod_bool Try.underlying4 h
  exact ⟨b, rfl, trivial⟩
/-- a graph by value -/
theorem graph_open {r : Reach} {b0 : Nat} {v : Value} {d : DataW H} {p : List MemPlace} (hv : Value.okWide Try.prog w r b0 25 v) (h : DataW.Trod enc Try.prog w base spare held 25 v d p) (hw : ∀ n ∈ d.weights Try.prog 25, n ≤ reachBytes) :
    ∃ (A0 : Option Addr) (c0 : Nat) (l0 : List Bool) (a1 : Int) (A2 : Option Addr) (c2 : Nat) (l2 : List S36), v = .agg #[.slice A0 l0.length c0, .int .i64 a1, .slice A2 l2.length c2] ∧ Kd.C Kd.bool w A0 l0.length l0 ∧ l0.length ≤ c0 ∧ Kd.C k36 w A2 l2.length l2 ∧ l2.length ≤ c2 ∧ smallG l2 := by
  obtain ⟨v0, v1, v2, y0, y1, y2, n, rfl, rfl, _, h0, h1, h2⟩ := Go.Joins.open_agg3 Try.underlying25 (by kernel_rfl) (by kernel_rfl) hv h
  obtain ⟨A0, c0, l0, e0, hc0, hC0, _⟩ := open_C Kd.bool (fun _ _ => True) Try.underlying22 (cells4.trans rfl) (fun n cs' D Pl hl h => bool_K n cs' D Pl hl h) h0
  obtain ⟨a1, e1, _, _⟩ := DataW.trod_int Try.underlying3 h1
  obtain ⟨A2, c2, l2, e2, hc2, hC2, hl2⟩ := open_C k36 lightI Try.underlying23 (cells36.trans rfl) (fun n cs' D Pl hl h => blk_K n cs' D Pl hl h) h2
  simp only [List.cons.injEq, and_true] at e0 e1 e2
  subst e0 e1 e2
  refine ⟨A0, c0, l0, a1, A2, c2, l2, rfl, hC0, hc0, hC2, hc2, ?_⟩
  rcases hl2 with rfl | ⟨elems, spr, he, hle, hx⟩
  · exact ⟨Nat.zero_le _, fun x hx => by cases hx⟩
  · have hb : Try.prog.bytesOf 36 = 56 := by kernel_rfl
    have hin : ∀ n ∈ (y2.1).weights Try.prog 23, n ≤ reachBytes := fun n hn => hw n (by
      simp only [DataW.weights, Try.underlying25, List.map_cons, List.map_nil]
      simp [DataW.weightsEach, hn])
    rw [he] at hin
    simp only [DataW.weights, Try.underlying23] at hin
    have hr := reachBytes_lt
    have hrb : reachBytes = 140737488351232 := rfl
    constructor
    · have := hin ((elems.length + spr.length) * 56) (by rw [hb]; exact List.mem_cons_self)
      omega
    · intro x hxm
      obtain ⟨D, hD, hl⟩ := hx x hxm
      exact hl (fun n hn => hin n (List.mem_cons_of_mem _ (List.mem_append_left _ (weights_in hD hn))))
end
end Go.Proofs.Ytjmeignhhheckaa.H

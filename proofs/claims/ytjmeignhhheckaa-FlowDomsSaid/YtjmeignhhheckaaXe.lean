/- Part 5 of the proof: contracts of the functions that are reached, and the plain law. -/
import Derived.Test.YtjmeignhhheckaaXd
import Derived.Deep.Slices
import Derived.Lib.SmallJoins
import Derived.SizedLaws
import Derived.ProofKit
import Derived.OpenShut
import Derived.ShutString
import Derived.ChangeOld
set_option linter.unusedVariables false
set_option linter.unusedSimpArgs false
namespace Go.Proofs.Ytjmeignhhheckaa.Q
open Go.RowKit Go.Proofs.YtjmeignhhheckaaW.PrintWords Go.Proofs.YtjmeignhhheckaaW.PrintLast Go.Proofs.YtjmeignhhheckaaW.PrintMore
attribute [local go_sem] max2_int min2_int max_two min_two max_three min_three max_four min_four   -- for this text's walks alone
set_option linter.unusedVariables false
set_option linter.unusedSimpArgs false
mutual
def turnstilelaw01_Beyond.l0 : Nat → List Int → Int → Int → Option (Bool)
  | 0, _, _, _ => none
  | k + 1, x0, x3, x4 => if x4 < (x0.length : Int) then (if 0 ≤ x4 then (if (rd x0 x4) < 0 then (turnstilelaw01_Beyond.j1 k x0 x3 x4 true) else (turnstilelaw01_Beyond.j1 k x0 x3 x4 (decide ((rd x0 x4) > 262144)))) else (none)) else (some false)
def turnstilelaw01_Beyond.j1 : Nat → List Int → Int → Int → Bool → Option (Bool)
  | 0, _, _, _, _ => none
  | k + 1, x0, x3, x4, x22 => if x22 = true then (some true) else (if 0 ≤ x4 then (if x4 < (x0.length : Int) then (if (wrap64 (x3 + (rd x0 x4))) > 262144 then (some true) else (turnstilelaw01_Beyond.l0 k x0 (wrap64 (x3 + (rd x0 x4))) (wrap64 (x4 + 1)))) else (none)) else (none))
end
def turnstilelaw01_Beyond.f (k : Nat) (l0 : List Int) : Option (Bool) := turnstilelaw01_Beyond.l0 k l0 0 0
theorem turnstilelaw01_Beyond.mono_l : ∀ k, (∀ y0 y1 y2, LeO (turnstilelaw01_Beyond.l0 k y0 y1 y2) (turnstilelaw01_Beyond.l0 (k + 1) y0 y1 y2)) ∧ (∀ y0 y1 y2 y3, LeO (turnstilelaw01_Beyond.j1 k y0 y1 y2 y3) (turnstilelaw01_Beyond.j1 (k + 1) y0 y1 y2 y3))
  | 0 => ⟨fun _ _ _ r h => by simp [turnstilelaw01_Beyond.l0] at h, fun _ _ _ _ r h => by simp [turnstilelaw01_Beyond.j1] at h⟩
  | k + 1 => by
    obtain ⟨ih0, ih1⟩ := turnstilelaw01_Beyond.mono_l k
    refine ⟨?_, ?_⟩
    · intro y0 y1 y2
      unfold turnstilelaw01_Beyond.l0
      repeat' first
      | (with_reducible exact ih0 _ _ _)
      | (with_reducible exact ih1 _ _ _ _)
      | (with_reducible exact LeO.refl _)
      | (with_reducible exact LeO.none _)
      | (with_reducible refine LeO.ite ?_ ?_)
      | (with_reducible refine LeO.bind ?_ (fun _ => ?_))
      | exact ih0 _ _ _
      | exact ih1 _ _ _ _
      | exact LeO.none _
      | refine LeO.ite ?_ ?_
      | refine LeO.bind ?_ (fun _ => ?_)
    · intro y0 y1 y2 y3
      unfold turnstilelaw01_Beyond.j1
      repeat' first
      | (with_reducible exact ih0 _ _ _)
      | (with_reducible exact ih1 _ _ _ _)
      | (with_reducible exact LeO.refl _)
      | (with_reducible exact LeO.none _)
      | (with_reducible refine LeO.ite ?_ ?_)
      | (with_reducible refine LeO.bind ?_ (fun _ => ?_))
      | exact ih0 _ _ _
      | exact ih1 _ _ _ _
      | exact LeO.none _
      | refine LeO.ite ?_ ?_
      | refine LeO.bind ?_ (fun _ => ?_)
theorem turnstilelaw01_Beyond.mono : ∀ a0 k, LeO (turnstilelaw01_Beyond.f k a0) (turnstilelaw01_Beyond.f (k + 1) a0) := by
  intro a0 k
  obtain ⟨ih0, ih1⟩ := turnstilelaw01_Beyond.mono_l k
  unfold turnstilelaw01_Beyond.f
  repeat' first
      | (with_reducible exact ih0 _ _ _)
      | (with_reducible exact ih1 _ _ _ _)
      | (with_reducible exact LeO.refl _)
      | (with_reducible exact LeO.none _)
      | (with_reducible refine LeO.ite ?_ ?_)
      | (with_reducible refine LeO.bind ?_ (fun _ => ?_))
      | exact ih0 _ _ _
      | exact ih1 _ _ _ _
      | exact LeO.none _
      | refine LeO.ite ?_ ?_
      | refine LeO.bind ?_ (fun _ => ?_)
set_option maxHeartbeats 8000000 in
set_option maxRecDepth 100000 in
theorem turnstilelaw01_Beyond.calls (k : Nat) (A0 : Option Addr) (c0 : Nat) (l0 : List Int) (r : Bool) (w : World) (hr0 : Kd.C (Kd.int .i64) w A0 l0.length l0) (hc0 : l0.length ≤ c0) (h : turnstilelaw01_Beyond.f k l0 = some r) :
    Calls Try.prog 13 #[.slice A0 l0.length c0] w fun e w' => e = .returned (.bool r) ∧ Drawn0 w w' := by
  have HR0 := Aside0.mk hr0
  have HC0 := Aside0.mk hc0
  clear hr0 hc0
  have H : (turnstilelaw01_Beyond.l0 k l0 0 0) = some r := h
  clear h
  have H' := Aside0.mk H
  clear H
  go_enter Try.func13, Try.ntmps13
  go_wp2
  go_loopg [3, 4] k (fun kq v3 v4 w' => ∃ (x3_1 : Int) (x4_1 : Int), v3 = .int .i64 x3_1 ∧ v4 = .int .i64 x4_1 ∧ Aside0 (turnstilelaw01_Beyond.l0 kq l0 x3_1 x4_1 = some r) ∧ Aside0 (kq ≤ k) ∧ Drawn0 w w')
  case atStart => exact ⟨(0), (0), (by first | rfl | (simp; done) | (simp [*]; done)), (by first | rfl | (simp; done) | (simp [*]; done)), H', ⟨Nat.le_refl _⟩, by repeat (first | exact Drawn0.refl _ | apply Drawn0.step)⟩
  case round =>
    clear H'
    try clear c1
    obtain ⟨x3_1, x4_1, rfl, rfl, HA, HK1, ⟨m1, rfl⟩⟩ := hrel
    cases gk with
    | zero => exact absurd HA.out (by simp [turnstilelaw01_Beyond.l0])
    | succ k1 =>
      have H := HA.out
      clear HA
      simp only [turnstilelaw01_Beyond.l0] at H
      by_cases c2 : x4_1 < (l0.length : Int)
      · rw [if_pos c2] at H
        have c2b0 : decide (x4_1 < (l0.length : Int)) = true := decide_eq_true c2
        clear c2
        have HC3 := Aside0.mk H
        clear H
        go_upto_region 5 with (fail)
        go_cut [22] (fun v22 wc => ∃ (kq : Nat) (x22_2 : Bool), v22 = .bool x22_2 ∧ Aside0 (turnstilelaw01_Beyond.j1 kq l0 x3_1 x4_1 x22_2 = some r) ∧ Aside0 (kq ≤ k1) ∧ Drawn0 w wc)
        case first =>
          have H := HC3.out
          clear HC3
          by_cases c4 : 0 ≤ x4_1
          · rw [if_pos c4] at H
            have c4b0 : decide (0 ≤ x4_1) = true := decide_eq_true c4
            clear c4
            (first | rw [c4b0] | (simp only [i64_w, i32_w]; rw [c4b0]) | skip)
            by_cases c5 : (rd l0 x4_1) < 0
            · rw [if_pos c5] at H
              have c5b0 : decide ((rd l0 x4_1) < 0) = true := decide_eq_true c5
              clear c5
              have H' := Aside0.mk H
              clear H
              have p101 : 0 ≤ (x4_1 : Int) := of_decide_eq_true (by first | (with_reducible assumption) | assumption)
              have q101 : x4_1 < (l0.length : Int) := of_decide_eq_true (by first | (with_reducible assumption) | assumption)
              obtain ⟨ad101, e101, hx101_0⟩ := Kd.at_int HR0.out x4_1 p101 q101
              cases e101
              replace p101 := eq_true p101
              replace q101 := eq_true q101
              go_wp2
              go_meet
              case rel => exact ⟨_, (true), (by first | rfl | (simp; done) | (simp [*]; done)), H', ⟨by have := HK1.out; first | omega | exact Nat.le_refl _⟩, by repeat (first | exact Drawn0.refl _ | apply Drawn0.step)⟩
            · rw [if_neg c5] at H
              have c5b0 : decide ((rd l0 x4_1) < 0) = false := decide_eq_false c5
              clear c5
              have H' := Aside0.mk H
              clear H
              have p101 : 0 ≤ (x4_1 : Int) := of_decide_eq_true (by first | (with_reducible assumption) | assumption)
              have q101 : x4_1 < (l0.length : Int) := of_decide_eq_true (by first | (with_reducible assumption) | assumption)
              obtain ⟨ad101, e101, hx101_0⟩ := Kd.at_int HR0.out x4_1 p101 q101
              cases e101
              replace p101 := eq_true p101
              replace q101 := eq_true q101
              have p102 : 0 ≤ (x4_1 : Int) := of_decide_eq_true (by first | (with_reducible assumption) | assumption)
              have q102 : x4_1 < (l0.length : Int) := of_decide_eq_true (by first | (with_reducible assumption) | assumption)
              obtain ⟨ad102, e102, hx102_0⟩ := Kd.at_int HR0.out x4_1 p102 q102
              obtain rfl : ad101 = ad102 := (by injection e102)
              replace p102 := eq_true p102
              replace q102 := eq_true q102
              go_wp2
              go_meet
              case rel => exact ⟨_, (decide ((rd l0 x4_1) > 262144)), (by first | rfl | (simp; done) | (simp [*]; done)), H', ⟨by have := HK1.out; first | omega | exact Nat.le_refl _⟩, by repeat (first | exact Drawn0.refl _ | apply Drawn0.step)⟩
          · rw [if_neg c4] at H
            exact absurd H (by simp)
        case rest =>
          clear HC3
          try clear c1
          try clear p1
          try clear q1
          try clear hx1
          try clear c2
          try clear c2b0
          try clear p2
          try clear c4
          try clear c4b0
          try clear c5
          try clear c5b0
          try clear hx101_0
          try clear hx102_0
          try clear p101
          try clear p102
          try clear q101
          try clear q102
          obtain ⟨kq, x22_2, rfl, HA, HJ2, ⟨mc2, rfl⟩⟩ := hcut
          cases kq with
          | zero => exact absurd HA.out (by simp [turnstilelaw01_Beyond.j1])
          | succ kj2 =>
            have H := HA.out
            clear HA
            simp only [turnstilelaw01_Beyond.j1] at H
            by_cases c6 : x22_2 = true
            · subst c6
              have H1 : (some true) = some r := by rw [if_pos rfl] at H; exact H
              clear H
              have H := H1
              clear H1
              obtain rfl := Option.some.inj H
              go_wp2
              go_ret
              exact ⟨by first | rfl | (simp; done) | (simp [*]; done), by repeat (first | exact Drawn0.refl _ | apply Drawn0.step)⟩
            · replace c6 := Bool.eq_false_iff.mpr c6
              subst c6
              have H1 : (if 0 ≤ x4_1 then (if x4_1 < (l0.length : Int) then (if (wrap64 (x3_1 + (rd l0 x4_1))) > 262144 then (some true) else (turnstilelaw01_Beyond.l0 kj2 l0 (wrap64 (x3_1 + (rd l0 x4_1))) (wrap64 (x4_1 + 1)))) else (none)) else (none)) = some r := by rw [if_neg (show ¬ (false = true) by decide)] at H; exact H
              clear H
              have H := H1
              clear H1
              by_cases c7 : 0 ≤ x4_1
              · rw [if_pos c7] at H
                have c7b0 : decide (0 ≤ x4_1) = true := decide_eq_true c7
                clear c7
                by_cases c8 : x4_1 < (l0.length : Int)
                · rw [if_pos c8] at H
                  have c8b0 : decide (x4_1 < (l0.length : Int)) = true := decide_eq_true c8
                  clear c8
                  by_cases c9 : (wrap64 (x3_1 + (rd l0 x4_1))) > 262144
                  · rw [if_pos c9] at H
                    have c9b0 : decide (262144 < (wrap64 (x3_1 + (rd l0 x4_1)))) = true := decide_eq_true c9
                    clear c9
                    obtain rfl := Option.some.inj H
                    have p103 : 0 ≤ (x4_1 : Int) := of_decide_eq_true (by first | (with_reducible assumption) | assumption)
                    have q103 : x4_1 < (l0.length : Int) := of_decide_eq_true (by first | (with_reducible assumption) | assumption)
                    obtain ⟨ad103, e103, hx103_0⟩ := Kd.at_int HR0.out x4_1 p103 q103
                    cases e103
                    replace p103 := eq_true p103
                    replace q103 := eq_true q103
                    go_wp2
                    go_ret
                    exact ⟨by first | rfl | (simp; done) | (simp [*]; done), by repeat (first | exact Drawn0.refl _ | apply Drawn0.step)⟩
                  · rw [if_neg c9] at H
                    have c9b0 : decide (262144 < (wrap64 (x3_1 + (rd l0 x4_1)))) = false := decide_eq_false c9
                    clear c9
                    have H' := Aside0.mk H
                    clear H
                    have p103 : 0 ≤ (x4_1 : Int) := of_decide_eq_true (by first | (with_reducible assumption) | assumption)
                    have q103 : x4_1 < (l0.length : Int) := of_decide_eq_true (by first | (with_reducible assumption) | assumption)
                    obtain ⟨ad103, e103, hx103_0⟩ := Kd.at_int HR0.out x4_1 p103 q103
                    cases e103
                    replace p103 := eq_true p103
                    replace q103 := eq_true q103
                    go_wp2
                    go_roundg kj2
                    case measure => have := HK1.out; have := HJ2.out; omega
                    case rel => exact ⟨(wrap64 (x3_1 + (rd l0 x4_1))), (wrap64 (x4_1 + 1)), (by first | rfl | (simp; done) | (simp [*]; done)), (by first | rfl | (simp; done) | (simp [*]; done)), H', ⟨by have := HK1.out; have := HJ2.out; omega⟩, by repeat (first | exact Drawn0.refl _ | apply Drawn0.step)⟩
                · rw [if_neg c8] at H
                  exact absurd H (by simp)
              · rw [if_neg c7] at H
                exact absurd H (by simp)
      · rw [if_neg c2] at H
        have c2b0 : decide (x4_1 < (l0.length : Int)) = false := decide_eq_false c2
        clear c2
        obtain rfl := Option.some.inj H
        go_wp2
        go_ret
        exact ⟨by first | rfl | (simp; done) | (simp [*]; done), by repeat (first | exact Drawn0.refl _ | apply Drawn0.step)⟩
end Go.Proofs.Ytjmeignhhheckaa.Q
namespace Go.Proofs.Ytjmeignhhheckaa.Q
open Go.RowKit Go.Proofs.YtjmeignhhheckaaW.PrintWords Go.Proofs.YtjmeignhhheckaaW.PrintLast Go.Proofs.YtjmeignhhheckaaW.PrintMore
attribute [local go_sem] max2_int min2_int max_two min_two max_three min_three max_four min_four   -- for this text's walks alone
set_option linter.unusedVariables false
set_option linter.unusedSimpArgs false
def turnstilelaw01_counted.f (a0 : Int) : Option (Int) := if a0 < 0 then (some 262145) else (some (wrap64 (262144 - a0)))
set_option maxHeartbeats 8000000 in
set_option maxRecDepth 100000 in
theorem turnstilelaw01_counted.calls (a0 : Int) (r : Int) (w : World) (h : turnstilelaw01_counted.f a0 = some r) :
    Calls Try.prog 55 #[.int .i64 a0] w fun e w' => e = .returned (.int .i64 r) ∧ Drawn0 w w' := by
  have H : (if a0 < 0 then (some 262145) else (some (wrap64 (262144 - a0)))) = some r := h
  clear h
  by_cases c2 : a0 < 0
  · rw [if_pos c2] at H
    have c2b0 : decide (a0 < 0) = true := decide_eq_true c2
    clear c2
    obtain rfl := Option.some.inj H
    go_enter Try.func55, Try.ntmps55
    go_wp2
    go_ret
    exact ⟨by first | rfl | (simp; done) | (simp [*]; done), by repeat (first | exact Drawn0.refl _ | apply Drawn0.step)⟩
  · rw [if_neg c2] at H
    have c2b0 : decide (a0 < 0) = false := decide_eq_false c2
    clear c2
    obtain rfl := Option.some.inj H
    go_enter Try.func55, Try.ntmps55
    go_wp2
    go_ret
    exact ⟨by first | rfl | (simp; done) | (simp [*]; done), by repeat (first | exact Drawn0.refl _ | apply Drawn0.step)⟩
end Go.Proofs.Ytjmeignhhheckaa.Q
namespace Go.Proofs.Ytjmeignhhheckaa.Q
open Go.RowKit Go.Proofs.YtjmeignhhheckaaW.PrintWords Go.Proofs.YtjmeignhhheckaaW.PrintLast Go.Proofs.YtjmeignhhheckaaW.PrintMore
attribute [local go_sem] max2_int min2_int max_two min_two max_three min_three max_four min_four   -- for this text's walks alone
set_option linter.unusedVariables false
set_option linter.unusedSimpArgs false
def turnstilelaw01_GraphSize.l0 : Nat → Int → Int → List Bool → Int → List (S36) → Option (Int)
  | 0, _, _, _, _, _ => none
  | k + 1, x3, x4, x105000, x105001, x105002 => if x4 < (x105002.length : Int) then (if x3 ≥ 0 then (if 0 ≤ x4 then (turnstilelaw01_GraphSize.l0 k (wrap64 (x3 - (((rd_T36 x105002 x4).f0).length : Int))) (wrap64 (x4 + 1)) x105000 x105001 x105002) else (none)) else ((turnstilelaw01_counted.f x3).bind fun t106 => (some t106))) else ((turnstilelaw01_counted.f x3).bind fun t107 => (some t107))
def turnstilelaw01_GraphSize.f (k : Nat) (l0_0 : List Bool) (a0_1 : Int) (l0_2 : List (S36)) : Option (Int) := turnstilelaw01_GraphSize.l0 k (wrap64 ((wrap64 (262144 - (l0_0.length : Int))) - (l0_2.length : Int))) 0 l0_0 a0_1 l0_2
theorem turnstilelaw01_GraphSize.mono_l : ∀ k, (∀ y0 y1 y2 y3 y4, LeO (turnstilelaw01_GraphSize.l0 k y0 y1 y2 y3 y4) (turnstilelaw01_GraphSize.l0 (k + 1) y0 y1 y2 y3 y4))
  | 0 => fun _ _ _ _ _ r h => by simp [turnstilelaw01_GraphSize.l0] at h
  | k + 1 => by
    have ih0 := turnstilelaw01_GraphSize.mono_l k
    · intro y0 y1 y2 y3 y4
      unfold turnstilelaw01_GraphSize.l0
      repeat' first
      | (with_reducible exact ih0 _ _ _ _ _)
      | (with_reducible exact LeO.refl _)
      | (with_reducible exact LeO.none _)
      | (with_reducible refine LeO.ite ?_ ?_)
      | (with_reducible refine LeO.bind ?_ (fun _ => ?_))
      | exact ih0 _ _ _ _ _
      | exact LeO.none _
      | refine LeO.ite ?_ ?_
      | refine LeO.bind ?_ (fun _ => ?_)
theorem turnstilelaw01_GraphSize.mono : ∀ a0 a1 a2 k, LeO (turnstilelaw01_GraphSize.f k a0 a1 a2) (turnstilelaw01_GraphSize.f (k + 1) a0 a1 a2) := by
  intro a0 a1 a2 k
  have ih0 := turnstilelaw01_GraphSize.mono_l k
  unfold turnstilelaw01_GraphSize.f
  repeat' first
      | (with_reducible exact ih0 _ _ _ _ _)
      | (with_reducible exact LeO.refl _)
      | (with_reducible exact LeO.none _)
      | (with_reducible refine LeO.ite ?_ ?_)
      | (with_reducible refine LeO.bind ?_ (fun _ => ?_))
      | exact ih0 _ _ _ _ _
      | exact LeO.none _
      | refine LeO.ite ?_ ?_
      | refine LeO.bind ?_ (fun _ => ?_)
set_option maxHeartbeats 8000000 in
set_option maxRecDepth 100000 in
theorem turnstilelaw01_GraphSize.calls (k : Nat) (A0_0 : Option Addr) (c0_0 : Nat) (l0_0 : List Bool) (a0_1 : Int) (A0_2 : Option Addr) (c0_2 : Nat) (l0_2 : List (S36)) (r : Int) (w : World) (hr0_0 : Kd.C Kd.bool w A0_0 l0_0.length l0_0) (hc0_0 : l0_0.length ≤ c0_0) (hr0_2 : Kd.C k36 w A0_2 l0_2.length l0_2) (hc0_2 : l0_2.length ≤ c0_2) (h : turnstilelaw01_GraphSize.f k l0_0 a0_1 l0_2 = some r) :
    Calls Try.prog 14 #[.agg #[.slice A0_0 l0_0.length c0_0, .int .i64 a0_1, .slice A0_2 l0_2.length c0_2]] w fun e w' => e = .returned (.int .i64 r) ∧ Below w.heap.size w w' := by
  have hu25 := Try.underlying25
  have HR0_0 := Aside0.mk hr0_0
  have HC0_0 := Aside0.mk hc0_0
  clear hr0_0 hc0_0
  have HR0_2 := Aside0.mk hr0_2
  have HC0_2 := Aside0.mk hc0_2
  clear hr0_2 hc0_2
  have HB := Aside0.mk (Below.refl w.heap.size w)
  have H : (turnstilelaw01_GraphSize.l0 k (wrap64 ((wrap64 (262144 - (l0_0.length : Int))) - (l0_2.length : Int))) 0 l0_0 a0_1 l0_2) = some r := h
  clear h
  have H' := Aside0.mk H
  clear H
  go_enter Try.func14, Try.ntmps14
  go_wp2_with (first | ((with_reducible refine gate_dst (N := 1) rfl ?_); refine box_event ?hg (N := 1) ?hd (cs := #[.slice A0_0 l0_0.length c0_0, .int .i64 a0_1, .slice A0_2 l0_2.length c0_2]) (t := 25) ?hr ?_; (case hd => rfl); (case hg => rfl); (case hr => first | (go_simp; done) | (go_simp; rfl)); intro gb104 hg w2 hbox hb; have n0_ := Aside0.mk (below_step (by repeat (first | (with_reducible first | exact HB.out | apply below_alloc | apply pw_below_drewN | apply below_drew1) | exact HB.out)) hb); have n1_ := Aside0.mk (hbox); have n2_ := Aside0.mk ((by rw [hg]; exact (below_size (by repeat (first | (with_reducible first | exact HB.out | apply below_alloc | apply pw_below_drewN | apply below_drew1) | exact HB.out))) : w.heap.size ≤ gb104)); have n3_ := Aside0.mk ((by rw [hg]; exact (below_size (by repeat (first | (with_reducible first | exact HB.out | apply below_alloc | apply pw_below_drewN | apply below_drew1) | exact HB.out))) : w.heap.size ≤ gb104)); clear HB; have HB := n0_; have BK104 := n1_; have GW104 := n2_; have GE104 := n3_; clear n0_ n1_ n2_ n3_; clear hb hbox hg; have hcz3_0 : w2.cell? ⟨gb104, 0, none⟩ = some (.slice A0_0 l0_0.length c0_0) := (blk_cell BK104.out 0).trans rfl; have hcz3_1 : w2.cell? ⟨gb104, 1, none⟩ = some (.int .i64 a0_1) := (blk_cell BK104.out 1).trans rfl; have hcz3_2 : w2.cell? ⟨gb104, 2, none⟩ = some (.slice A0_2 l0_2.length c0_2) := (blk_cell BK104.out 2).trans rfl; have hfz3_0 := blk_frozen BK104.out 0; have hfz3_1 := blk_frozen BK104.out 1; have hfz3_2 := blk_frozen BK104.out 2))
  go_loopg [3, 4] k (fun kq v3 v4 w' => ∃ (x3_1 : Int) (x4_1 : Int), v3 = .int .i64 x3_1 ∧ v4 = .int .i64 x4_1 ∧ Aside0 (turnstilelaw01_GraphSize.l0 kq x3_1 x4_1 l0_0 a0_1 l0_2 = some r) ∧ Aside0 (kq ≤ k) ∧ Aside0 (w'.heap[gb104]? = some (.cells #[(.slice A0_0 l0_0.length c0_0), .int .i64 a0_1, (.slice A0_2 l0_2.length c0_2)] 25 (0, 0))) ∧ Aside0 (Below w.heap.size w w'))
  case atStart => exact ⟨(wrap64 ((wrap64 (262144 - (l0_0.length : Int))) - (l0_2.length : Int))), (0), (by first | rfl | (simp; done) | (simp [*]; done)), (by first | rfl | (simp; done) | (simp [*]; done)), H', ⟨Nat.le_refl _⟩, ⟨by (with_reducible repeat (first | refine blk_drewN ?_ _ | refine blk_drew ?_ | refine blk_alloc ?_ _)); exact BK104.out⟩, ⟨by repeat (first | (with_reducible first | exact HB.out | apply below_alloc | apply pw_below_drewN | apply below_drew1 | refine below_set ?_ GE104.out) | exact HB.out)⟩⟩
  case round =>
    clear H'
    try clear c1
    try clear p2
    try clear hcz3_0
    try clear hcz3_1
    try clear hcz3_2
    try clear hfz3_0
    try clear hfz3_1
    try clear hfz3_2
    obtain ⟨x3_1, x4_1, rfl, rfl, HA, HK1, BK104, HB⟩ := hrel
    cases gk with
    | zero => exact absurd HA.out (by simp [turnstilelaw01_GraphSize.l0])
    | succ k1 =>
      have H := HA.out
      clear HA
      simp only [turnstilelaw01_GraphSize.l0] at H
      by_cases c4 : x4_1 < (l0_2.length : Int)
      · rw [if_pos c4] at H
        have c4b0 : decide (x4_1 < (l0_2.length : Int)) = true := decide_eq_true c4
        clear c4
        by_cases c5 : x3_1 ≥ 0
        · rw [if_pos c5] at H
          have c5b0 : decide (0 ≤ x3_1) = true := decide_eq_true c5
          clear c5
          by_cases c6 : 0 ≤ x4_1
          · rw [if_pos c6] at H
            have c6b0 : decide (0 ≤ x4_1) = true := decide_eq_true c6
            clear c6
            have H' := Aside0.mk H
            clear H
            have hcz7_0 : wr.cell? ⟨gb104, 0, none⟩ = some (.slice A0_0 l0_0.length c0_0) := (blk_cell BK104.out 0).trans rfl
            have hcz7_1 : wr.cell? ⟨gb104, 1, none⟩ = some (.int .i64 a0_1) := (blk_cell BK104.out 1).trans rfl
            have hcz7_2 : wr.cell? ⟨gb104, 2, none⟩ = some (.slice A0_2 l0_2.length c0_2) := (blk_cell BK104.out 2).trans rfl
            have hfz7_0 := blk_frozen BK104.out 0
            have hfz7_1 := blk_frozen BK104.out 1
            have hfz7_2 := blk_frozen BK104.out 2
            have p105 : 0 ≤ (x4_1 : Int) := of_decide_eq_true (by first | (with_reducible assumption) | assumption)
            have q105 : x4_1 < (l0_2.length : Int) := of_decide_eq_true (by first | (with_reducible assumption) | assumption)
            obtain ⟨ad105, A105_0, c105_0, e105, hx105_0, hx105_1, hx105_2, hx105_3, hx105_4, hl105_0, hi105_0⟩ := at_T36 HR0_2.out x4_1 p105 q105
            cases e105
            replace hx105_0 := (HB.out.cell (World.block_lt_of_cell? w _ hx105_0)).trans hx105_0
            replace hx105_1 := (HB.out.cell (World.block_lt_of_cell? w _ hx105_1)).trans hx105_1
            replace hx105_2 := (HB.out.cell (World.block_lt_of_cell? w _ hx105_2)).trans hx105_2
            replace hx105_3 := (HB.out.cell (World.block_lt_of_cell? w _ hx105_3)).trans hx105_3
            replace hx105_4 := (HB.out.cell (World.block_lt_of_cell? w _ hx105_4)).trans hx105_4
            have HR105_0 := Aside0.mk hi105_0
            have HC105_0 := Aside0.mk hl105_0
            clear hi105_0 hl105_0
            replace p105 := eq_true p105
            replace q105 := eq_true q105
            go_wp2
            go_roundg k1
            case measure => have := HK1.out; omega
            case rel => exact ⟨(wrap64 (x3_1 - (((rd_T36 l0_2 x4_1).f0).length : Int))), (wrap64 (x4_1 + 1)), (by first | rfl | (simp; done) | (simp [*]; done)), (by first | rfl | (simp; done) | (simp [*]; done)), H', ⟨by have := HK1.out; omega⟩, ⟨by (with_reducible repeat (first | refine blk_drewN ?_ _ | refine blk_drew ?_ | refine blk_alloc ?_ _)); exact BK104.out⟩, ⟨by repeat (first | (with_reducible first | exact HB.out | apply below_alloc | apply pw_below_drewN | apply below_drew1 | refine below_set ?_ GE104.out) | exact HB.out)⟩⟩
          · rw [if_neg c6] at H
            exact absurd H (by simp)
        · rw [if_neg c5] at H
          have c5b0 : decide (0 ≤ x3_1) = false := decide_eq_false c5
          clear c5
          replace H := Option.bind_eq_some_iff.mp H
          obtain ⟨t106, A80, H⟩ := H
          replace H : (some t106) = some r := H
          have A8 := Aside0.mk A80
          clear A80
          obtain rfl := Option.some.inj H
          have hcz9_0 : wr.cell? ⟨gb104, 0, none⟩ = some (.slice A0_0 l0_0.length c0_0) := (blk_cell BK104.out 0).trans rfl
          have hcz9_1 : wr.cell? ⟨gb104, 1, none⟩ = some (.int .i64 a0_1) := (blk_cell BK104.out 1).trans rfl
          have hcz9_2 : wr.cell? ⟨gb104, 2, none⟩ = some (.slice A0_2 l0_2.length c0_2) := (blk_cell BK104.out 2).trans rfl
          have hfz9_0 := blk_frozen BK104.out 0
          have hfz9_1 := blk_frozen BK104.out 1
          have hfz9_2 := blk_frozen BK104.out 2
          go_wp2_with (first | ((with_reducible refine gate_callee (f := 55) rfl ?_); refine goesL_ (some 34) rfl rfl Try.func55 (by kernel_rfl) rfl #[.int .i64 x3_1] rfl (by (try simp only [List.map_toArray, List.map_cons, List.map_nil]); first | done | rfl | (simp only [List.length_drop, List.length_take]; rfl)) ?_; (with_reducible refine (turnstilelaw01_counted.calls x3_1 t106 _ A8.out).mono ?_); rintro e w' ⟨rfl, ⟨nd, rfl⟩⟩; refine ⟨_, rfl, ?_⟩))
          go_ret
          exact ⟨by first | rfl | (simp [errW_none, errW_some] <;> rfl) | (simp [*, errW_none, errW_some] <;> rfl), by repeat (first | (with_reducible first | exact HB.out | apply below_alloc | apply pw_below_drewN | apply below_drew1 | refine below_set ?_ GE104.out) | exact HB.out)⟩
      · rw [if_neg c4] at H
        have c4b0 : decide (x4_1 < (l0_2.length : Int)) = false := decide_eq_false c4
        clear c4
        replace H := Option.bind_eq_some_iff.mp H
        obtain ⟨t107, A100, H⟩ := H
        replace H : (some t107) = some r := H
        have A10 := Aside0.mk A100
        clear A100
        obtain rfl := Option.some.inj H
        have hcz11_0 : wr.cell? ⟨gb104, 0, none⟩ = some (.slice A0_0 l0_0.length c0_0) := (blk_cell BK104.out 0).trans rfl
        have hcz11_1 : wr.cell? ⟨gb104, 1, none⟩ = some (.int .i64 a0_1) := (blk_cell BK104.out 1).trans rfl
        have hcz11_2 : wr.cell? ⟨gb104, 2, none⟩ = some (.slice A0_2 l0_2.length c0_2) := (blk_cell BK104.out 2).trans rfl
        have hfz11_0 := blk_frozen BK104.out 0
        have hfz11_1 := blk_frozen BK104.out 1
        have hfz11_2 := blk_frozen BK104.out 2
        go_wp2_with (first | ((with_reducible refine gate_callee (f := 55) rfl ?_); refine goesL_ (some 34) rfl rfl Try.func55 (by kernel_rfl) rfl #[.int .i64 x3_1] rfl (by (try simp only [List.map_toArray, List.map_cons, List.map_nil]); first | done | rfl | (simp only [List.length_drop, List.length_take]; rfl)) ?_; (with_reducible refine (turnstilelaw01_counted.calls x3_1 t107 _ A10.out).mono ?_); rintro e w' ⟨rfl, ⟨nd, rfl⟩⟩; refine ⟨_, rfl, ?_⟩))
        go_ret
        exact ⟨by first | rfl | (simp [errW_none, errW_some] <;> rfl) | (simp [*, errW_none, errW_some] <;> rfl), by repeat (first | (with_reducible first | exact HB.out | apply below_alloc | apply pw_below_drewN | apply below_drew1 | refine below_set ?_ GE104.out) | exact HB.out)⟩
end Go.Proofs.Ytjmeignhhheckaa.Q
namespace Go.Proofs.Ytjmeignhhheckaa.H
open Go.RowKit Go.Maps Go.Proofs.YtjmeignhhheckaaW.PrintWords Go.Proofs.YtjmeignhhheckaaW.PrintLast Go.Proofs.Ytjmeignhhheckaa.Q Go.Proofs.Ytjmeignhhheckaa.D
set_option maxRecDepth 100000
theorem fw64 {x : Int} (h0 : -1000000000000000000 ≤ x) (h1 : x ≤ 1000000000000000000) : Go.RowKit.wrap64 x = x := by
  unfold Go.RowKit.wrap64; omega
theorem fstep {i : Nat} (h : i ≤ 500000000000000000) : Go.RowKit.wrap64 ((i : Int) + 1) = ((i + 1 : Nat) : Int) := by
  rw [fw64 (by omega) (by omega)]; omega
theorem fcounted (x : Int) : ∃ t, turnstilelaw01_counted.f x = some t := by
  unfold turnstilelaw01_counted.f
  split
  · exact ⟨_, rfl⟩
  · exact ⟨_, rfl⟩
theorem fsize_l0 (xs : List Bool) (sites : Int) (bs : List S36) (hs : bs.length ≤ 140737488351232) : ∀ (d i k : Nat) (x : Int), i + d = bs.length → d < k → ∃ t, turnstilelaw01_GraphSize.l0 k x i xs sites bs = some t := by
  intro d
  induction d with
  | zero =>
    intro i k x hi hk
    obtain ⟨k, rfl⟩ : ∃ m, k = m + 1 := ⟨k - 1, by omega⟩
    simp only [turnstilelaw01_GraphSize.l0]
    rw [if_neg (by omega)]
    obtain ⟨t, ht⟩ := fcounted x
    rw [ht]
    exact ⟨t, rfl⟩
  | succ d ih =>
    intro i k x hi hk
    obtain ⟨k, rfl⟩ : ∃ m, k = m + 1 := ⟨k - 1, by omega⟩
    simp only [turnstilelaw01_GraphSize.l0]
    rw [if_pos (by omega)]
    split
    · rw [if_pos (by omega), fstep (by omega)]
      exact ih (i + 1) k _ (by omega) (by omega)
    · obtain ⟨t, ht⟩ := fcounted x
      rw [ht]
      exact ⟨t, rfl⟩
theorem fsize (xs : List Bool) (sites : Int) (bs : List S36) (hs : bs.length ≤ 140737488351232) (k : Nat) (hk : bs.length < k) : ∃ t, turnstilelaw01_GraphSize.f k xs sites bs = some t := by
  unfold turnstilelaw01_GraphSize.f
  exact fsize_l0 xs sites bs hs bs.length 0 k _ (by omega) (by omega)
theorem fbeyond (t : Int) (k : Nat) (hk : 10 ≤ k) : ∃ b, turnstilelaw01_Beyond.f k [t] = some b := by
  obtain ⟨k, rfl⟩ : ∃ m, k = m + 5 := ⟨k - 5, by omega⟩
  unfold turnstilelaw01_Beyond.f
  by_cases h : t < 0
  · exact ⟨true, by simp [turnstilelaw01_Beyond.l0, turnstilelaw01_Beyond.j1, rd, h]⟩
  · by_cases h2 : t > 262144
    · exact ⟨true, by simp [turnstilelaw01_Beyond.l0, turnstilelaw01_Beyond.j1, rd, h, h2]⟩
    · have hw : Go.RowKit.wrap64 t = t := fw64 (by omega) (by omega)
      exact ⟨false, by simp [turnstilelaw01_Beyond.l0, turnstilelaw01_Beyond.j1, rd, h, h2, hw, show Go.RowKit.wrap64 1 = 1 from fw64 (by omega) (by omega)]⟩
/-- what flow.Reach, flow.Dom say -/
theorem rd_fold (n : Nat) : ∀ (ord : List Int) (x : List Bool), x.length = n → (∀ o ∈ ord, 0 ≤ o ∧ o < n) → (ord.foldl (fun x o => x.set o.toNat true) x).length = n ∧ ∀ b : Nat, b < n → rdOf false (ord.foldl (fun x o => x.set o.toNat true) x) (b : Int) = (rdOf false x b || decide ((b : Int) ∈ ord)) := by
  intro ord
  induction ord with
  | nil => intro x hx _; exact ⟨hx, fun b _ => by simp⟩
  | cons o ord ih =>
    intro x hx ho
    have h1 := ho o (by simp)
    obtain ⟨h2, h3⟩ := ih (x.set o.toNat true) (by rw [List.length_set]; exact hx) (fun p hp => ho p (by simp [hp]))
    refine ⟨h2, fun b hb => ?_⟩
    rw [List.foldl_cons, h3 b hb, rdOf_set h1.1 (by omega) (Int.natCast_nonneg b)]
    by_cases e : (b : Int) = o
    · simp [e]
    · simp [e]
structure FEnv (bs : List S36) : Prop where
  ne : 0 < bs.length
  nb : bs.length ≤ 4096
  T : okT bs
theorem FEnv.of {xs : List Bool} {sites : Int} {bs : List S36} (hE : gE xs sites bs = 0) : FEnv bs := ⟨(gE_gok hE).ne, (gE_gok hE).nb, (gE_gok hE).T⟩
def domF (bs : List S36) : List Int := (domR bs).set 0 (-1)
section
variable {bs : List S36}
theorem FEnv.ord (h : FEnv bs) : OrderOk bs (orderS bs) := orderS_ok bs h.T h.ne
theorem FEnv.rlen (h : FEnv bs) : (reachS bs).length = bs.length := (rd_fold bs.length (orderS bs) _ (by simp) h.ord.rng).1
theorem FEnv.reach (h : FEnv bs) (b : Nat) (hb : b < bs.length) : rdOf false (reachS bs) (b : Int) = decide ((b : Int) ∈ orderS bs) := by
  rw [reachS, (rd_fold bs.length (orderS bs) _ (by simp) h.ord.rng).2 b hb]
  have : rdOf false (List.replicate bs.length false) (b : Int) = false := by
    unfold rdOf
    rw [List.getD_eq_getElem?_getD, List.getElem?_replicate]
    split <;> rfl
  rw [this, Bool.false_or]
theorem FEnv.olen (h : FEnv bs) : (orderS bs).length ≤ bs.length := by
  have O := h.ord
  have : ((orderS bs).map Int.toNat).length ≤ bs.length := D.nodup_len bs.length _ (by
    refine (List.pairwise_map.2 (O.nd.imp_of_mem (fun ha hb h e => h ?_)))
    have h1 := O.rng _ ha
    have h2 := O.rng _ hb
    omega) (fun i hi => by
    obtain ⟨o, ho, rfl⟩ := List.mem_map.1 hi
    have := O.rng o ho
    omega)
  rwa [List.length_map] at this
theorem FEnv.dlen (h : FEnv bs) : (domF bs).length = bs.length := by
  obtain ⟨_, D', hr, _⟩ := domR_ok bs h.T h.ne
  unfold domF
  rw [List.length_set, hr.len]
theorem FEnv.dget (h : FEnv bs) (b : Nat) : (domF bs).getD b 0 = if b = 0 then -1 else (domR bs).getD b 0 := by
  obtain ⟨_, D', hr, _⟩ := domR_ok bs h.T h.ne
  unfold domF
  rw [D.getD_set_i (by rw [hr.len]; exact h.ne)]
  by_cases e : b = 0
  · rw [if_pos e.symm, if_pos e]
  · rw [if_neg (fun e2 => e e2.symm), if_neg e]
theorem FEnv.rows_no (h : FEnv bs) (b : Nat) (hb : (b : Int) ∉ orderS bs) : (ahS bs).getD b [] = [] := by
  rw [List.eq_nil_iff_forall_not_mem]
  intro p hp
  have := (mem_ahS bs h.T h.ne b p).1 hp
  exact hb (h.ord.next p this.1 _ this.2)
theorem FEnv.rows_yes (h : FEnv bs) (i : Nat) (h0 : 0 < i) (hi : i < (orderS bs).length) : 0 < ((ahS bs).getD ((orderS bs).getD i 0).toNat []).length := by
  obtain ⟨p, hp, _⟩ := (env_of bs h.T h.ne).non i h0 hi
  exact List.length_pos_of_mem hp
theorem reach_k (xs : List Bool) (sites : Int) (bs : List S36) (hs : smallG bs) : ∃ k0, ∀ k, k0 ≤ k → flow_Reach.f k xs sites bs = some (if gE xs sites bs = 0 then reachS bs else [], gE xs sites bs) := by
  obtain ⟨k0, h⟩ := reach_f xs sites bs hs
  exact ⟨k0, fun k hk => at_rounds (g := fun k => flow_Reach.f k xs sites bs) (fun k => flow_Reach.mono _ _ _ k) hk h⟩
theorem ahead_f (xs : List Bool) (sites : Int) (bs : List S36) (hs : smallG bs) : flow_Ahead.f xs sites bs = some (if gE xs sites bs = 0 then ahS bs else [], gE xs sites bs) := by
  unfold flow_Ahead.f
  rw [check_f xs sites bs hs, Option.bind_some]
  by_cases h : gE xs sites bs = 0
  · have F := FEnv.of h
    rw [if_pos h, if_pos h, h]
    unfold flow_ahead.f
    rw [if_pos ⟨F.ne, by have := F.nb; omega, F.T⟩]
    rfl
  · rw [if_neg h, if_neg h]
theorem dom_f (xs : List Bool) (sites : Int) (bs : List S36) (hs : smallG bs) : flow_Dom.f xs sites bs = some (if gE xs sites bs = 0 then domF bs else [], gE xs sites bs) := by
  unfold flow_Dom.f domS
  rw [if_pos hs]
  by_cases h : gE xs sites bs = 0
  · rw [if_pos h, if_pos h, h]; rfl
  · rw [if_neg h, if_neg h]
end
end Go.Proofs.Ytjmeignhhheckaa.H
namespace Go.Proofs.Ytjmeignhhheckaa.Q
open Go.RowKit Go.Proofs.YtjmeignhhheckaaW.PrintWords Go.Proofs.YtjmeignhhheckaaW.PrintLast Go.Proofs.YtjmeignhhheckaaW.PrintMore
attribute [local go_sem] max2_int min2_int max_two min_two max_three min_three max_four min_four   -- for this text's walks alone
set_option linter.unusedVariables false
set_option linter.unusedSimpArgs false
mutual
def turnstilelaw12_FlowDoms.j0 : Nat → List Bool → List (List Int) → List Int → Int → Bool → Option (Bool)
  | 0, _, _, _, _, _ => none
  | k + 1, x3, x5, x7, x9, x94 => if x94 = true then (some false) else (turnstilelaw12_FlowDoms.l0 k x3 x5 x7 x9 1)
def turnstilelaw12_FlowDoms.l0 : Nat → List Bool → List (List Int) → List Int → Int → Int → Option (Bool)
  | 0, _, _, _, _, _ => none
  | k + 1, x3, x5, x7, x9, x10 => if x10 < x9 then (if 0 ≤ x10 then (if x10 < (x3.length : Int) then (if rdOf false x3 x10 = true then (turnstilelaw12_FlowDoms.l1 k x3 x5 x7 x9 x10 x10 0) else (if x10 < (x5.length : Int) then (if ((rd_L13 x5 x10).length : Int) > 0 then (some false) else (if x10 < (x7.length : Int) then (if (rd x7 x10) = (-1) then (turnstilelaw12_FlowDoms.l0 k x3 x5 x7 x9 (wrap64 (x10 + 1))) else (some false)) else (none))) else (none))) else (none)) else (none)) else ((turnstilelaw12_alive.f k).bind fun t317 => (some t317))
def turnstilelaw12_FlowDoms.l1 : Nat → List Bool → List (List Int) → List Int → Int → Int → Int → Int → Option (Bool)
  | 0, _, _, _, _, _, _, _ => none
  | k + 1, x3, x5, x7, x9, x10, x11, x12 => if x11 = 0 then (if 0 ≤ x10 then (if x10 < (x5.length : Int) then (if ((rd_L13 x5 x10).length : Int) = 0 then (some false) else (turnstilelaw12_FlowDoms.l0 k x3 x5 x7 x9 (wrap64 (x10 + 1)))) else (none)) else (none)) else (if 0 ≤ x11 then (if x11 < (x7.length : Int) then (if x12 > x9 then (some false) else (if (rd x7 x11) < 0 then (some false) else (if (rd x7 x11) ≥ x9 then (some false) else (if 0 ≤ (rd x7 x11) then (if (rd x7 x11) < (x3.length : Int) then (if (rdOf false x3 (rd x7 x11) = true) then (turnstilelaw12_FlowDoms.l1 k x3 x5 x7 x9 x10 (rd x7 x11) (wrap64 (x12 + 1))) else (some false)) else (none)) else (none))))) else (none)) else (none))
end
def turnstilelaw12_FlowDoms.f (k : Nat) (l0_0 : List Bool) (a0_1 : Int) (l0_2 : List (S36)) : Option (Bool) := (turnstilelaw01_GraphSize.f k l0_0 a0_1 l0_2).bind fun t297 => ((turnstilelaw01_Beyond.f k (([t297] : List Int))).bind fun t301 => (if t301 = true then (some true) else ((flow_Reach.f k l0_0 a0_1 l0_2).bind fun bt302 => ((flow_Ahead.f l0_0 a0_1 l0_2).bind fun bt306 => ((flow_Dom.f l0_0 a0_1 l0_2).bind fun bt310 => (if bt302.2 = 0 then (if bt306.2 = 0 then (if bt310.2 = 0 then (if (bt302.1.length : Int) = (l0_2.length : Int) then (if (bt306.1.length : Int) = (l0_2.length : Int) then (if (bt310.1.length : Int) = (l0_2.length : Int) then (if 0 < (bt302.1.length : Int) then (if rdOf false bt302.1 0 = true then (if 0 < (bt310.1.length : Int) then (turnstilelaw12_FlowDoms.j0 k bt302.1 bt306.1 bt310.1 (l0_2.length : Int) ((rd bt310.1 0) != (-1))) else (none)) else (turnstilelaw12_FlowDoms.j0 k bt302.1 bt306.1 bt310.1 (l0_2.length : Int) true)) else (none)) else (turnstilelaw12_FlowDoms.j0 k bt302.1 bt306.1 bt310.1 (l0_2.length : Int) true)) else (turnstilelaw12_FlowDoms.j0 k bt302.1 bt306.1 bt310.1 (l0_2.length : Int) true)) else (turnstilelaw12_FlowDoms.j0 k bt302.1 bt306.1 bt310.1 (l0_2.length : Int) true)) else (turnstilelaw12_FlowDoms.j0 k bt302.1 bt306.1 bt310.1 (l0_2.length : Int) true)) else (turnstilelaw12_FlowDoms.j0 k bt302.1 bt306.1 bt310.1 (l0_2.length : Int) true)) else (if bt306.2 = bt302.2 then (if bt310.2 = bt302.2 then (if (wrap64 ((wrap64 ((bt302.1.length : Int) + (bt306.1.length : Int))) + (bt310.1.length : Int))) = 0 then ((turnstilelaw12_alive.f k).bind fun t314 => (some t314)) else (some false)) else (some false)) else (some false))))))))
theorem turnstilelaw12_FlowDoms.mono_l : ∀ k, (∀ y0 y1 y2 y3 y4, LeO (turnstilelaw12_FlowDoms.j0 k y0 y1 y2 y3 y4) (turnstilelaw12_FlowDoms.j0 (k + 1) y0 y1 y2 y3 y4)) ∧ (∀ y0 y1 y2 y3 y4, LeO (turnstilelaw12_FlowDoms.l0 k y0 y1 y2 y3 y4) (turnstilelaw12_FlowDoms.l0 (k + 1) y0 y1 y2 y3 y4)) ∧ (∀ y0 y1 y2 y3 y4 y5 y6, LeO (turnstilelaw12_FlowDoms.l1 k y0 y1 y2 y3 y4 y5 y6) (turnstilelaw12_FlowDoms.l1 (k + 1) y0 y1 y2 y3 y4 y5 y6))
  | 0 => ⟨fun _ _ _ _ _ r h => by simp [turnstilelaw12_FlowDoms.j0] at h, fun _ _ _ _ _ r h => by simp [turnstilelaw12_FlowDoms.l0] at h, fun _ _ _ _ _ _ _ r h => by simp [turnstilelaw12_FlowDoms.l1] at h⟩
  | k + 1 => by
    obtain ⟨ih0, ih1, ih2⟩ := turnstilelaw12_FlowDoms.mono_l k
    refine ⟨?_, ?_, ?_⟩
    · intro y0 y1 y2 y3 y4
      unfold turnstilelaw12_FlowDoms.j0
      repeat' first
      | (with_reducible exact ih0 _ _ _ _ _)
      | (with_reducible exact ih1 _ _ _ _ _)
      | (with_reducible exact ih2 _ _ _ _ _ _ _)
      | (with_reducible exact flow_Reach.mono _ _ _ _)
      | (with_reducible exact turnstilelaw01_Beyond.mono _ _)
      | (with_reducible exact turnstilelaw01_GraphSize.mono _ _ _ _)
      | (with_reducible exact turnstilelaw12_alive.mono _)
      | (with_reducible exact LeO.refl _)
      | (with_reducible exact LeO.none _)
      | (with_reducible refine LeO.ite ?_ ?_)
      | (with_reducible refine LeO.bind ?_ (fun _ => ?_))
      | exact ih0 _ _ _ _ _
      | exact ih1 _ _ _ _ _
      | exact ih2 _ _ _ _ _ _ _
      | exact flow_Reach.mono _ _ _ _
      | exact turnstilelaw01_Beyond.mono _ _
      | exact turnstilelaw01_GraphSize.mono _ _ _ _
      | exact turnstilelaw12_alive.mono _
      | exact LeO.none _
      | refine LeO.ite ?_ ?_
      | refine LeO.bind ?_ (fun _ => ?_)
    · intro y0 y1 y2 y3 y4
      unfold turnstilelaw12_FlowDoms.l0
      repeat' first
      | (with_reducible exact ih0 _ _ _ _ _)
      | (with_reducible exact ih1 _ _ _ _ _)
      | (with_reducible exact ih2 _ _ _ _ _ _ _)
      | (with_reducible exact flow_Reach.mono _ _ _ _)
      | (with_reducible exact turnstilelaw01_Beyond.mono _ _)
      | (with_reducible exact turnstilelaw01_GraphSize.mono _ _ _ _)
      | (with_reducible exact turnstilelaw12_alive.mono _)
      | (with_reducible exact LeO.refl _)
      | (with_reducible exact LeO.none _)
      | (with_reducible refine LeO.ite ?_ ?_)
      | (with_reducible refine LeO.bind ?_ (fun _ => ?_))
      | exact ih0 _ _ _ _ _
      | exact ih1 _ _ _ _ _
      | exact ih2 _ _ _ _ _ _ _
      | exact flow_Reach.mono _ _ _ _
      | exact turnstilelaw01_Beyond.mono _ _
      | exact turnstilelaw01_GraphSize.mono _ _ _ _
      | exact turnstilelaw12_alive.mono _
      | exact LeO.none _
      | refine LeO.ite ?_ ?_
      | refine LeO.bind ?_ (fun _ => ?_)
    · intro y0 y1 y2 y3 y4 y5 y6
      unfold turnstilelaw12_FlowDoms.l1
      repeat' first
      | (with_reducible exact ih0 _ _ _ _ _)
      | (with_reducible exact ih1 _ _ _ _ _)
      | (with_reducible exact ih2 _ _ _ _ _ _ _)
      | (with_reducible exact flow_Reach.mono _ _ _ _)
      | (with_reducible exact turnstilelaw01_Beyond.mono _ _)
      | (with_reducible exact turnstilelaw01_GraphSize.mono _ _ _ _)
      | (with_reducible exact turnstilelaw12_alive.mono _)
      | (with_reducible exact LeO.refl _)
      | (with_reducible exact LeO.none _)
      | (with_reducible refine LeO.ite ?_ ?_)
      | (with_reducible refine LeO.bind ?_ (fun _ => ?_))
      | exact ih0 _ _ _ _ _
      | exact ih1 _ _ _ _ _
      | exact ih2 _ _ _ _ _ _ _
      | exact flow_Reach.mono _ _ _ _
      | exact turnstilelaw01_Beyond.mono _ _
      | exact turnstilelaw01_GraphSize.mono _ _ _ _
      | exact turnstilelaw12_alive.mono _
      | exact LeO.none _
      | refine LeO.ite ?_ ?_
      | refine LeO.bind ?_ (fun _ => ?_)
theorem turnstilelaw12_FlowDoms.mono : ∀ a0 a1 a2 k, LeO (turnstilelaw12_FlowDoms.f k a0 a1 a2) (turnstilelaw12_FlowDoms.f (k + 1) a0 a1 a2) := by
  intro a0 a1 a2 k
  obtain ⟨ih0, ih1, ih2⟩ := turnstilelaw12_FlowDoms.mono_l k
  unfold turnstilelaw12_FlowDoms.f
  repeat' first
      | (with_reducible exact ih0 _ _ _ _ _)
      | (with_reducible exact ih1 _ _ _ _ _)
      | (with_reducible exact ih2 _ _ _ _ _ _ _)
      | (with_reducible exact flow_Reach.mono _ _ _ _)
      | (with_reducible exact turnstilelaw01_Beyond.mono _ _)
      | (with_reducible exact turnstilelaw01_GraphSize.mono _ _ _ _)
      | (with_reducible exact turnstilelaw12_alive.mono _)
      | (with_reducible exact LeO.refl _)
      | (with_reducible exact LeO.none _)
      | (with_reducible refine LeO.ite ?_ ?_)
      | (with_reducible refine LeO.bind ?_ (fun _ => ?_))
      | exact ih0 _ _ _ _ _
      | exact ih1 _ _ _ _ _
      | exact ih2 _ _ _ _ _ _ _
      | exact flow_Reach.mono _ _ _ _
      | exact turnstilelaw01_Beyond.mono _ _
      | exact turnstilelaw01_GraphSize.mono _ _ _ _
      | exact turnstilelaw12_alive.mono _
      | exact LeO.none _
      | refine LeO.ite ?_ ?_
      | refine LeO.bind ?_ (fun _ => ?_)
set_option maxHeartbeats 8000000 in
set_option maxRecDepth 100000 in
theorem turnstilelaw12_FlowDoms.calls (k : Nat) (A0_0 : Option Addr) (c0_0 : Nat) (l0_0 : List Bool) (a0_1 : Int) (A0_2 : Option Addr) (c0_2 : Nat) (l0_2 : List (S36)) (r : Bool) (w : World) (hr0_0 : Kd.C Kd.bool w A0_0 l0_0.length l0_0) (hc0_0 : l0_0.length ≤ c0_0) (hr0_2 : Kd.C k36 w A0_2 l0_2.length l0_2) (hc0_2 : l0_2.length ≤ c0_2) (h : turnstilelaw12_FlowDoms.f k l0_0 a0_1 l0_2 = some r) :
    Calls Try.prog 11 #[.agg #[.slice A0_0 l0_0.length c0_0, .int .i64 a0_1, .slice A0_2 l0_2.length c0_2]] w fun e w' => e = .returned (.bool r) ∧ Below w.heap.size w w' := by
  have hu25 := Try.underlying25
  have HR0_0 := Aside0.mk hr0_0
  have HC0_0 := Aside0.mk hc0_0
  clear hr0_0 hc0_0
  have HR0_2 := Aside0.mk hr0_2
  have HC0_2 := Aside0.mk hc0_2
  clear hr0_2 hc0_2
  have HB := Aside0.mk (Below.refl w.heap.size w)
  have H : ((turnstilelaw01_GraphSize.f k l0_0 a0_1 l0_2).bind fun t297 => ((turnstilelaw01_Beyond.f k (([t297] : List Int))).bind fun t301 => (if t301 = true then (some true) else ((flow_Reach.f k l0_0 a0_1 l0_2).bind fun bt302 => ((flow_Ahead.f l0_0 a0_1 l0_2).bind fun bt306 => ((flow_Dom.f l0_0 a0_1 l0_2).bind fun bt310 => (if bt302.2 = 0 then (if bt306.2 = 0 then (if bt310.2 = 0 then (if (bt302.1.length : Int) = (l0_2.length : Int) then (if (bt306.1.length : Int) = (l0_2.length : Int) then (if (bt310.1.length : Int) = (l0_2.length : Int) then (if 0 < (bt302.1.length : Int) then (if rdOf false bt302.1 0 = true then (if 0 < (bt310.1.length : Int) then (turnstilelaw12_FlowDoms.j0 k bt302.1 bt306.1 bt310.1 (l0_2.length : Int) ((rd bt310.1 0) != (-1))) else (none)) else (turnstilelaw12_FlowDoms.j0 k bt302.1 bt306.1 bt310.1 (l0_2.length : Int) true)) else (none)) else (turnstilelaw12_FlowDoms.j0 k bt302.1 bt306.1 bt310.1 (l0_2.length : Int) true)) else (turnstilelaw12_FlowDoms.j0 k bt302.1 bt306.1 bt310.1 (l0_2.length : Int) true)) else (turnstilelaw12_FlowDoms.j0 k bt302.1 bt306.1 bt310.1 (l0_2.length : Int) true)) else (turnstilelaw12_FlowDoms.j0 k bt302.1 bt306.1 bt310.1 (l0_2.length : Int) true)) else (turnstilelaw12_FlowDoms.j0 k bt302.1 bt306.1 bt310.1 (l0_2.length : Int) true)) else (if bt306.2 = bt302.2 then (if bt310.2 = bt302.2 then (if (wrap64 ((wrap64 ((bt302.1.length : Int) + (bt306.1.length : Int))) + (bt310.1.length : Int))) = 0 then ((turnstilelaw12_alive.f k).bind fun t314 => (some t314)) else (some false)) else (some false)) else (some false))))))))) = some r := h
  clear h
  replace H := Option.bind_eq_some_iff.mp H
  obtain ⟨t297, A20, H⟩ := H
  replace H : ((turnstilelaw01_Beyond.f k (([t297] : List Int))).bind fun t301 => (if t301 = true then (some true) else ((flow_Reach.f k l0_0 a0_1 l0_2).bind fun bt302 => ((flow_Ahead.f l0_0 a0_1 l0_2).bind fun bt306 => ((flow_Dom.f l0_0 a0_1 l0_2).bind fun bt310 => (if bt302.2 = 0 then (if bt306.2 = 0 then (if bt310.2 = 0 then (if (bt302.1.length : Int) = (l0_2.length : Int) then (if (bt306.1.length : Int) = (l0_2.length : Int) then (if (bt310.1.length : Int) = (l0_2.length : Int) then (if 0 < (bt302.1.length : Int) then (if rdOf false bt302.1 0 = true then (if 0 < (bt310.1.length : Int) then (turnstilelaw12_FlowDoms.j0 k bt302.1 bt306.1 bt310.1 (l0_2.length : Int) ((rd bt310.1 0) != (-1))) else (none)) else (turnstilelaw12_FlowDoms.j0 k bt302.1 bt306.1 bt310.1 (l0_2.length : Int) true)) else (none)) else (turnstilelaw12_FlowDoms.j0 k bt302.1 bt306.1 bt310.1 (l0_2.length : Int) true)) else (turnstilelaw12_FlowDoms.j0 k bt302.1 bt306.1 bt310.1 (l0_2.length : Int) true)) else (turnstilelaw12_FlowDoms.j0 k bt302.1 bt306.1 bt310.1 (l0_2.length : Int) true)) else (turnstilelaw12_FlowDoms.j0 k bt302.1 bt306.1 bt310.1 (l0_2.length : Int) true)) else (turnstilelaw12_FlowDoms.j0 k bt302.1 bt306.1 bt310.1 (l0_2.length : Int) true)) else (if bt306.2 = bt302.2 then (if bt310.2 = bt302.2 then (if (wrap64 ((wrap64 ((bt302.1.length : Int) + (bt306.1.length : Int))) + (bt310.1.length : Int))) = 0 then ((turnstilelaw12_alive.f k).bind fun t314 => (some t314)) else (some false)) else (some false)) else (some false)))))))) = some r := H
  have A2 := Aside0.mk A20
  clear A20
  obtain ⟨y298, hy298⟩ : ∃ y_ : List Int, y_ = (([t297] : List Int)) := ⟨_, rfl⟩
  replace H : ((turnstilelaw01_Beyond.f k y298).bind fun t301 => (if t301 = true then (some true) else ((flow_Reach.f k l0_0 a0_1 l0_2).bind fun bt302 => ((flow_Ahead.f l0_0 a0_1 l0_2).bind fun bt306 => ((flow_Dom.f l0_0 a0_1 l0_2).bind fun bt310 => (if bt302.2 = 0 then (if bt306.2 = 0 then (if bt310.2 = 0 then (if (bt302.1.length : Int) = (l0_2.length : Int) then (if (bt306.1.length : Int) = (l0_2.length : Int) then (if (bt310.1.length : Int) = (l0_2.length : Int) then (if 0 < (bt302.1.length : Int) then (if rdOf false bt302.1 0 = true then (if 0 < (bt310.1.length : Int) then (turnstilelaw12_FlowDoms.j0 k bt302.1 bt306.1 bt310.1 (l0_2.length : Int) ((rd bt310.1 0) != (-1))) else (none)) else (turnstilelaw12_FlowDoms.j0 k bt302.1 bt306.1 bt310.1 (l0_2.length : Int) true)) else (none)) else (turnstilelaw12_FlowDoms.j0 k bt302.1 bt306.1 bt310.1 (l0_2.length : Int) true)) else (turnstilelaw12_FlowDoms.j0 k bt302.1 bt306.1 bt310.1 (l0_2.length : Int) true)) else (turnstilelaw12_FlowDoms.j0 k bt302.1 bt306.1 bt310.1 (l0_2.length : Int) true)) else (turnstilelaw12_FlowDoms.j0 k bt302.1 bt306.1 bt310.1 (l0_2.length : Int) true)) else (turnstilelaw12_FlowDoms.j0 k bt302.1 bt306.1 bt310.1 (l0_2.length : Int) true)) else (if bt306.2 = bt302.2 then (if bt310.2 = bt302.2 then (if (wrap64 ((wrap64 ((bt302.1.length : Int) + (bt306.1.length : Int))) + (bt310.1.length : Int))) = 0 then ((turnstilelaw12_alive.f k).bind fun t314 => (some t314)) else (some false)) else (some false)) else (some false)))))))) = some r := by first | (rw [hy298]; with_reducible exact H) | (have H2_ := (Option.bind_some _ _).symm.trans H; rw [hy298]; with_reducible exact H2_) | (have H2_ := (Option.bind_some _ _).symm.trans H; with_reducible exact H2_) | with_reducible exact H | (rw [hy298]; exact H) | exact H
  have Ny298 := Aside0.mk hy298
  clear hy298
  replace H := Option.bind_eq_some_iff.mp H
  obtain ⟨t301, A30, H⟩ := H
  replace H : (if t301 = true then (some true) else ((flow_Reach.f k l0_0 a0_1 l0_2).bind fun bt302 => ((flow_Ahead.f l0_0 a0_1 l0_2).bind fun bt306 => ((flow_Dom.f l0_0 a0_1 l0_2).bind fun bt310 => (if bt302.2 = 0 then (if bt306.2 = 0 then (if bt310.2 = 0 then (if (bt302.1.length : Int) = (l0_2.length : Int) then (if (bt306.1.length : Int) = (l0_2.length : Int) then (if (bt310.1.length : Int) = (l0_2.length : Int) then (if 0 < (bt302.1.length : Int) then (if rdOf false bt302.1 0 = true then (if 0 < (bt310.1.length : Int) then (turnstilelaw12_FlowDoms.j0 k bt302.1 bt306.1 bt310.1 (l0_2.length : Int) ((rd bt310.1 0) != (-1))) else (none)) else (turnstilelaw12_FlowDoms.j0 k bt302.1 bt306.1 bt310.1 (l0_2.length : Int) true)) else (none)) else (turnstilelaw12_FlowDoms.j0 k bt302.1 bt306.1 bt310.1 (l0_2.length : Int) true)) else (turnstilelaw12_FlowDoms.j0 k bt302.1 bt306.1 bt310.1 (l0_2.length : Int) true)) else (turnstilelaw12_FlowDoms.j0 k bt302.1 bt306.1 bt310.1 (l0_2.length : Int) true)) else (turnstilelaw12_FlowDoms.j0 k bt302.1 bt306.1 bt310.1 (l0_2.length : Int) true)) else (turnstilelaw12_FlowDoms.j0 k bt302.1 bt306.1 bt310.1 (l0_2.length : Int) true)) else (if bt306.2 = bt302.2 then (if bt310.2 = bt302.2 then (if (wrap64 ((wrap64 ((bt302.1.length : Int) + (bt306.1.length : Int))) + (bt310.1.length : Int))) = 0 then ((turnstilelaw12_alive.f k).bind fun t314 => (some t314)) else (some false)) else (some false)) else (some false))))))) = some r := H
  have A3 := Aside0.mk A30
  clear A30
  by_cases c4 : t301 = true
  · subst c4
    have H1 : (some true) = some r := by rw [if_pos rfl] at H; exact H
    clear H
    have H := H1
    clear H1
    obtain rfl := Option.some.inj H
    go_enter Try.func11, Try.ntmps11
    go_wp2_with (first | ((with_reducible refine gate_dst (N := 1) rfl ?_); (try (refine gate_guard (by rfl) ?_; dsimp only)); refine box_event ?hg (N := 1) ?hd (cs := #[.slice A0_0 l0_0.length c0_0, .int .i64 a0_1, .slice A0_2 l0_2.length c0_2]) (t := 25) ?hr ?_; (case hd => rfl); (case hg => rfl); (case hr => first | (go_simp; done) | (go_simp; rfl)); intro gb296 hg w5 hbox hb; have n0_ := Aside0.mk (below_step (by repeat (first | (with_reducible first | exact HB.out | apply below_alloc | apply pw_below_drewN | apply below_drew1) | exact HB.out)) hb); have n1_ := Aside0.mk (hbox); have n2_ := Aside0.mk ((by rw [hg]; exact (below_size (by repeat (first | (with_reducible first | exact HB.out | apply below_alloc | apply pw_below_drewN | apply below_drew1) | exact HB.out))) : w.heap.size ≤ gb296)); have n3_ := Aside0.mk ((by rw [hg]; exact (below_size (by repeat (first | (with_reducible first | exact HB.out | apply below_alloc | apply pw_below_drewN | apply below_drew1) | exact HB.out))) : w.heap.size ≤ gb296)); clear HB; have HB := n0_; have BK296 := n1_; have GW296 := n2_; have GE296 := n3_; clear n0_ n1_ n2_ n3_; clear hb hbox hg; have hcz6_0 : w5.cell? ⟨gb296, 0, none⟩ = some (.slice A0_0 l0_0.length c0_0) := (blk_cell BK296.out 0).trans rfl; have hcz6_1 : w5.cell? ⟨gb296, 1, none⟩ = some (.int .i64 a0_1) := (blk_cell BK296.out 1).trans rfl; have hcz6_2 : w5.cell? ⟨gb296, 2, none⟩ = some (.slice A0_2 l0_2.length c0_2) := (blk_cell BK296.out 2).trans rfl; have hfz6_0 := blk_frozen BK296.out 0; have hfz6_1 := blk_frozen BK296.out 1; have hfz6_2 := blk_frozen BK296.out 2) | ((with_reducible refine gate_callee (f := 14) rfl ?_); refine goesL_ (some 14) rfl rfl Try.func14 (by kernel_rfl) rfl #[.agg #[.slice A0_0 l0_0.length c0_0, .int .i64 a0_1, .slice A0_2 l0_2.length c0_2]] rfl (by (try simp only [List.map_toArray, List.map_cons, List.map_nil]); first | done | rfl | (simp only [List.length_drop, List.length_take]; rfl)) ?_; (with_reducible refine (turnstilelaw01_GraphSize.calls k _ _ l0_0 a0_1 _ _ l0_2 t297 _ ?side1 ?side2 ?side3 ?side4 A2.out).mono ?_); (case side1 => repeat (first | exact (Kd.C_below HR0_0.out HB.out) | (with_reducible refine Kd.C_alloc ?_ _) | (with_reducible refine Kd.C_drewN ?_ _) | (with_reducible refine Kd.C_drew ?_))); (case side2 => exact HC0_0.out); (case side3 => repeat (first | exact (Kd.C_below HR0_2.out HB.out) | (with_reducible refine Kd.C_alloc ?_ _) | (with_reducible refine Kd.C_drewN ?_ _) | (with_reducible refine Kd.C_drew ?_))); (case side4 => exact HC0_2.out); rintro e w7 ⟨rfl, hb⟩; refine ⟨_, rfl, ?_⟩; have n0_ := Aside0.mk (blk_below (g := gb296) (o := .cells #[.slice A0_0 l0_0.length c0_0, .int .i64 a0_1, .slice A0_2 l0_2.length c0_2] 25 (0, 0)) (by (with_reducible repeat (first | refine blk_drewN ?_ _ | refine blk_drew ?_ | refine blk_alloc ?_ _)); exact BK296.out) hb); have n1_ := Aside0.mk (below_step (by repeat (first | (with_reducible first | exact HB.out | apply below_alloc | apply pw_below_drewN | apply below_drew1 | refine below_set ?_ GE296.out) | exact HB.out)) hb); clear BK296; clear HB; have BK296 := n0_; have HB := n1_; clear n0_ n1_; (try clear hb); (try clear hb2); (try clear hk); (try clear hi)) | ((with_reducible refine gate_dst (N := 15) rfl ?_); (try (refine gate_guard (by rfl) ?_; dsimp only)); refine Kd.R_lit (Kd.int .i64) _ 3 ?hg (N := 15) ?hd (xs := ([t297] : List Int)) (inner := [.int .i64 t297]) (ok := fun _ => True) (okp := fun _ => True) ?hr ?hp (fun _ hk => hk) trivial (Below.refl _ _) (Nat.le_refl _) (by simp) ?_; (case hd => rfl); (case hg => rfl); (case hr => first | (go_simp; done) | (go_simp; rfl)); (case hp => exact (Reps.one (show Kd.M (Kd.int .i64) _ _ _ t297 [.int .i64 t297] from rfl) (Reps.none _ _))); intro v299 w8 ho9 hb hg_ hnew_; clear hg_ hnew_; (first | rw [← Ny298.out] at ho9 | (simp only [Int.reduceToNat] at ho9; rw [← Ny298.out] at ho9)); have n0_ := Aside0.mk (Kd.R_lower ho9 (below_size (by repeat (first | (with_reducible first | exact HB.out | apply below_alloc | apply pw_below_drewN | apply below_drew1 | refine below_set ?_ GE296.out) | exact HB.out)))); have n1_ := Aside0.mk (blk_below (g := gb296) (o := .cells #[.slice A0_0 l0_0.length c0_0, .int .i64 a0_1, .slice A0_2 l0_2.length c0_2] 25 (0, 0)) (by (with_reducible repeat (first | refine blk_drewN ?_ _ | refine blk_drew ?_ | refine blk_alloc ?_ _)); exact BK296.out) hb); have n2_ := Aside0.mk (below_step (by repeat (first | (with_reducible first | exact HB.out | apply below_alloc | apply pw_below_drewN | apply below_drew1 | refine below_set ?_ GE296.out) | exact HB.out)) hb); clear BK296; clear HB; have HO300 := n0_; have BK296 := n1_; have HB := n2_; clear n0_ n1_ n2_; clear hb ho9; obtain ⟨Ao10, co10, eo10⟩ := Kd.R_slice HO300.out; subst eo10) | ((with_reducible refine gate_callee (f := 13) rfl ?_); refine goesL_ (some 16) rfl rfl Try.func13 (by kernel_rfl) rfl #[.slice Ao10 y298.length co10] rfl (by (try simp only [List.map_toArray, List.map_cons, List.map_nil]); first | done | rfl | (simp only [List.length_drop, List.length_take]; rfl)) ?_; (with_reducible refine (turnstilelaw01_Beyond.calls k _ _ y298 true _ ?side1 ?side2 A3.out).mono ?_); (case side1 => repeat (first | exact (Kd.R_reads' HO300.out).2.2 | (with_reducible refine Kd.C_alloc ?_ _) | (with_reducible refine Kd.C_drewN ?_ _) | (with_reducible refine Kd.C_drew ?_))); (case side2 => exact (Kd.R_reads' HO300.out).2.1); rintro e w' ⟨rfl, ⟨nd, rfl⟩⟩; refine ⟨_, rfl, ?_⟩))
    go_ret
    exact ⟨by first | rfl | (simp [errW_none, errW_some] <;> rfl) | (simp [*, errW_none, errW_some] <;> rfl), by repeat (first | (with_reducible first | exact HB.out | apply below_alloc | apply pw_below_drewN | apply below_drew1 | refine below_set ?_ GE296.out) | exact HB.out)⟩
  · replace c4 := Bool.eq_false_iff.mpr c4
    subst c4
    have H1 : ((flow_Reach.f k l0_0 a0_1 l0_2).bind fun bt302 => ((flow_Ahead.f l0_0 a0_1 l0_2).bind fun bt306 => ((flow_Dom.f l0_0 a0_1 l0_2).bind fun bt310 => (if bt302.2 = 0 then (if bt306.2 = 0 then (if bt310.2 = 0 then (if (bt302.1.length : Int) = (l0_2.length : Int) then (if (bt306.1.length : Int) = (l0_2.length : Int) then (if (bt310.1.length : Int) = (l0_2.length : Int) then (if 0 < (bt302.1.length : Int) then (if rdOf false bt302.1 0 = true then (if 0 < (bt310.1.length : Int) then (turnstilelaw12_FlowDoms.j0 k bt302.1 bt306.1 bt310.1 (l0_2.length : Int) ((rd bt310.1 0) != (-1))) else (none)) else (turnstilelaw12_FlowDoms.j0 k bt302.1 bt306.1 bt310.1 (l0_2.length : Int) true)) else (none)) else (turnstilelaw12_FlowDoms.j0 k bt302.1 bt306.1 bt310.1 (l0_2.length : Int) true)) else (turnstilelaw12_FlowDoms.j0 k bt302.1 bt306.1 bt310.1 (l0_2.length : Int) true)) else (turnstilelaw12_FlowDoms.j0 k bt302.1 bt306.1 bt310.1 (l0_2.length : Int) true)) else (turnstilelaw12_FlowDoms.j0 k bt302.1 bt306.1 bt310.1 (l0_2.length : Int) true)) else (turnstilelaw12_FlowDoms.j0 k bt302.1 bt306.1 bt310.1 (l0_2.length : Int) true)) else (if bt306.2 = bt302.2 then (if bt310.2 = bt302.2 then (if (wrap64 ((wrap64 ((bt302.1.length : Int) + (bt306.1.length : Int))) + (bt310.1.length : Int))) = 0 then ((turnstilelaw12_alive.f k).bind fun t314 => (some t314)) else (some false)) else (some false)) else (some false)))))) = some r := by rw [if_neg (show ¬ (false = true) by decide)] at H; exact H
    clear H
    have H := H1
    clear H1
    replace H := Option.bind_eq_some_iff.mp H
    obtain ⟨⟨t302, t305⟩, A110, H⟩ := H
    replace H : ((flow_Ahead.f l0_0 a0_1 l0_2).bind fun bt306 => ((flow_Dom.f l0_0 a0_1 l0_2).bind fun bt310 => (if t305 = 0 then (if bt306.2 = 0 then (if bt310.2 = 0 then (if (t302.length : Int) = (l0_2.length : Int) then (if (bt306.1.length : Int) = (l0_2.length : Int) then (if (bt310.1.length : Int) = (l0_2.length : Int) then (if 0 < (t302.length : Int) then (if rdOf false t302 0 = true then (if 0 < (bt310.1.length : Int) then (turnstilelaw12_FlowDoms.j0 k t302 bt306.1 bt310.1 (l0_2.length : Int) ((rd bt310.1 0) != (-1))) else (none)) else (turnstilelaw12_FlowDoms.j0 k t302 bt306.1 bt310.1 (l0_2.length : Int) true)) else (none)) else (turnstilelaw12_FlowDoms.j0 k t302 bt306.1 bt310.1 (l0_2.length : Int) true)) else (turnstilelaw12_FlowDoms.j0 k t302 bt306.1 bt310.1 (l0_2.length : Int) true)) else (turnstilelaw12_FlowDoms.j0 k t302 bt306.1 bt310.1 (l0_2.length : Int) true)) else (turnstilelaw12_FlowDoms.j0 k t302 bt306.1 bt310.1 (l0_2.length : Int) true)) else (turnstilelaw12_FlowDoms.j0 k t302 bt306.1 bt310.1 (l0_2.length : Int) true)) else (if bt306.2 = t305 then (if bt310.2 = t305 then (if (wrap64 ((wrap64 ((t302.length : Int) + (bt306.1.length : Int))) + (bt310.1.length : Int))) = 0 then ((turnstilelaw12_alive.f k).bind fun t314 => (some t314)) else (some false)) else (some false)) else (some false))))) = some r := H
    have A11 := Aside0.mk A110
    clear A110
    replace H := Option.bind_eq_some_iff.mp H
    obtain ⟨⟨t306, t309⟩, A120, H⟩ := H
    replace H : ((flow_Dom.f l0_0 a0_1 l0_2).bind fun bt310 => (if t305 = 0 then (if t309 = 0 then (if bt310.2 = 0 then (if (t302.length : Int) = (l0_2.length : Int) then (if (t306.length : Int) = (l0_2.length : Int) then (if (bt310.1.length : Int) = (l0_2.length : Int) then (if 0 < (t302.length : Int) then (if rdOf false t302 0 = true then (if 0 < (bt310.1.length : Int) then (turnstilelaw12_FlowDoms.j0 k t302 t306 bt310.1 (l0_2.length : Int) ((rd bt310.1 0) != (-1))) else (none)) else (turnstilelaw12_FlowDoms.j0 k t302 t306 bt310.1 (l0_2.length : Int) true)) else (none)) else (turnstilelaw12_FlowDoms.j0 k t302 t306 bt310.1 (l0_2.length : Int) true)) else (turnstilelaw12_FlowDoms.j0 k t302 t306 bt310.1 (l0_2.length : Int) true)) else (turnstilelaw12_FlowDoms.j0 k t302 t306 bt310.1 (l0_2.length : Int) true)) else (turnstilelaw12_FlowDoms.j0 k t302 t306 bt310.1 (l0_2.length : Int) true)) else (turnstilelaw12_FlowDoms.j0 k t302 t306 bt310.1 (l0_2.length : Int) true)) else (if t309 = t305 then (if bt310.2 = t305 then (if (wrap64 ((wrap64 ((t302.length : Int) + (t306.length : Int))) + (bt310.1.length : Int))) = 0 then ((turnstilelaw12_alive.f k).bind fun t314 => (some t314)) else (some false)) else (some false)) else (some false)))) = some r := H
    have A12 := Aside0.mk A120
    clear A120
    replace H := Option.bind_eq_some_iff.mp H
    obtain ⟨⟨t310, t313⟩, A130, H⟩ := H
    replace H : (if t305 = 0 then (if t309 = 0 then (if t313 = 0 then (if (t302.length : Int) = (l0_2.length : Int) then (if (t306.length : Int) = (l0_2.length : Int) then (if (t310.length : Int) = (l0_2.length : Int) then (if 0 < (t302.length : Int) then (if rdOf false t302 0 = true then (if 0 < (t310.length : Int) then (turnstilelaw12_FlowDoms.j0 k t302 t306 t310 (l0_2.length : Int) ((rd t310 0) != (-1))) else (none)) else (turnstilelaw12_FlowDoms.j0 k t302 t306 t310 (l0_2.length : Int) true)) else (none)) else (turnstilelaw12_FlowDoms.j0 k t302 t306 t310 (l0_2.length : Int) true)) else (turnstilelaw12_FlowDoms.j0 k t302 t306 t310 (l0_2.length : Int) true)) else (turnstilelaw12_FlowDoms.j0 k t302 t306 t310 (l0_2.length : Int) true)) else (turnstilelaw12_FlowDoms.j0 k t302 t306 t310 (l0_2.length : Int) true)) else (turnstilelaw12_FlowDoms.j0 k t302 t306 t310 (l0_2.length : Int) true)) else (if t309 = t305 then (if t313 = t305 then (if (wrap64 ((wrap64 ((t302.length : Int) + (t306.length : Int))) + (t310.length : Int))) = 0 then ((turnstilelaw12_alive.f k).bind fun t314 => (some t314)) else (some false)) else (some false)) else (some false))) = some r := H
    have A13 := Aside0.mk A130
    clear A130
    by_cases c14 : t305 = 0
    · rw [if_pos c14] at H
      have c14b0 : (t305 == 0) = true := beq_iff_eq.mpr c14
      have c14b1 : (t305 != 0) = false := bne_eq_false_iff_eq.mpr c14
      clear c14
      have HC15 := Aside0.mk H
      clear H
      go_enter Try.func11, Try.ntmps11
      go_upto_region 9 with (first | ((with_reducible refine gate_dst (N := 1) rfl ?_); (try (refine gate_guard (by rfl) ?_; dsimp only)); refine box_event ?hg (N := 1) ?hd (cs := #[.slice A0_0 l0_0.length c0_0, .int .i64 a0_1, .slice A0_2 l0_2.length c0_2]) (t := 25) ?hr ?_; (case hd => rfl); (case hg => rfl); (case hr => first | (go_simp; done) | (go_simp; rfl)); intro gb296 hg w16 hbox hb; have n0_ := Aside0.mk (below_step (by repeat (first | (with_reducible first | exact HB.out | apply below_alloc | apply pw_below_drewN | apply below_drew1) | exact HB.out)) hb); have n1_ := Aside0.mk (hbox); have n2_ := Aside0.mk ((by rw [hg]; exact (below_size (by repeat (first | (with_reducible first | exact HB.out | apply below_alloc | apply pw_below_drewN | apply below_drew1) | exact HB.out))) : w.heap.size ≤ gb296)); have n3_ := Aside0.mk ((by rw [hg]; exact (below_size (by repeat (first | (with_reducible first | exact HB.out | apply below_alloc | apply pw_below_drewN | apply below_drew1) | exact HB.out))) : w.heap.size ≤ gb296)); clear HB; have HB := n0_; have BK296 := n1_; have GW296 := n2_; have GE296 := n3_; clear n0_ n1_ n2_ n3_; clear hb hbox hg; have hcz17_0 : w16.cell? ⟨gb296, 0, none⟩ = some (.slice A0_0 l0_0.length c0_0) := (blk_cell BK296.out 0).trans rfl; have hcz17_1 : w16.cell? ⟨gb296, 1, none⟩ = some (.int .i64 a0_1) := (blk_cell BK296.out 1).trans rfl; have hcz17_2 : w16.cell? ⟨gb296, 2, none⟩ = some (.slice A0_2 l0_2.length c0_2) := (blk_cell BK296.out 2).trans rfl; have hfz17_0 := blk_frozen BK296.out 0; have hfz17_1 := blk_frozen BK296.out 1; have hfz17_2 := blk_frozen BK296.out 2) | ((with_reducible refine gate_callee (f := 14) rfl ?_); refine goesL_ (some 14) rfl rfl Try.func14 (by kernel_rfl) rfl #[.agg #[.slice A0_0 l0_0.length c0_0, .int .i64 a0_1, .slice A0_2 l0_2.length c0_2]] rfl (by (try simp only [List.map_toArray, List.map_cons, List.map_nil]); first | done | rfl | (simp only [List.length_drop, List.length_take]; rfl)) ?_; (with_reducible refine (turnstilelaw01_GraphSize.calls k _ _ l0_0 a0_1 _ _ l0_2 t297 _ ?side1 ?side2 ?side3 ?side4 A2.out).mono ?_); (case side1 => repeat (first | exact (Kd.C_below HR0_0.out HB.out) | (with_reducible refine Kd.C_alloc ?_ _) | (with_reducible refine Kd.C_drewN ?_ _) | (with_reducible refine Kd.C_drew ?_))); (case side2 => exact HC0_0.out); (case side3 => repeat (first | exact (Kd.C_below HR0_2.out HB.out) | (with_reducible refine Kd.C_alloc ?_ _) | (with_reducible refine Kd.C_drewN ?_ _) | (with_reducible refine Kd.C_drew ?_))); (case side4 => exact HC0_2.out); rintro e w18 ⟨rfl, hb⟩; refine ⟨_, rfl, ?_⟩; have n0_ := Aside0.mk (blk_below (g := gb296) (o := .cells #[.slice A0_0 l0_0.length c0_0, .int .i64 a0_1, .slice A0_2 l0_2.length c0_2] 25 (0, 0)) (by (with_reducible repeat (first | refine blk_drewN ?_ _ | refine blk_drew ?_ | refine blk_alloc ?_ _)); exact BK296.out) hb); have n1_ := Aside0.mk (below_step (by repeat (first | (with_reducible first | exact HB.out | apply below_alloc | apply pw_below_drewN | apply below_drew1 | refine below_set ?_ GE296.out) | exact HB.out)) hb); clear BK296; clear HB; have BK296 := n0_; have HB := n1_; clear n0_ n1_; (try clear hb); (try clear hb2); (try clear hk); (try clear hi)) | ((with_reducible refine gate_dst (N := 15) rfl ?_); (try (refine gate_guard (by rfl) ?_; dsimp only)); refine Kd.R_lit (Kd.int .i64) _ 3 ?hg (N := 15) ?hd (xs := ([t297] : List Int)) (inner := [.int .i64 t297]) (ok := fun _ => True) (okp := fun _ => True) ?hr ?hp (fun _ hk => hk) trivial (Below.refl _ _) (Nat.le_refl _) (by simp) ?_; (case hd => rfl); (case hg => rfl); (case hr => first | (go_simp; done) | (go_simp; rfl)); (case hp => exact (Reps.one (show Kd.M (Kd.int .i64) _ _ _ t297 [.int .i64 t297] from rfl) (Reps.none _ _))); intro v299 w19 ho20 hb hg_ hnew_; clear hg_ hnew_; (first | rw [← Ny298.out] at ho20 | (simp only [Int.reduceToNat] at ho20; rw [← Ny298.out] at ho20)); have n0_ := Aside0.mk (Kd.R_lower ho20 (below_size (by repeat (first | (with_reducible first | exact HB.out | apply below_alloc | apply pw_below_drewN | apply below_drew1 | refine below_set ?_ GE296.out) | exact HB.out)))); have n1_ := Aside0.mk (blk_below (g := gb296) (o := .cells #[.slice A0_0 l0_0.length c0_0, .int .i64 a0_1, .slice A0_2 l0_2.length c0_2] 25 (0, 0)) (by (with_reducible repeat (first | refine blk_drewN ?_ _ | refine blk_drew ?_ | refine blk_alloc ?_ _)); exact BK296.out) hb); have n2_ := Aside0.mk (below_step (by repeat (first | (with_reducible first | exact HB.out | apply below_alloc | apply pw_below_drewN | apply below_drew1 | refine below_set ?_ GE296.out) | exact HB.out)) hb); clear BK296; clear HB; have HO300 := n0_; have BK296 := n1_; have HB := n2_; clear n0_ n1_ n2_; clear hb ho20; obtain ⟨Ao21, co21, eo21⟩ := Kd.R_slice HO300.out; subst eo21) | ((with_reducible refine gate_callee (f := 13) rfl ?_); refine goesL_ (some 16) rfl rfl Try.func13 (by kernel_rfl) rfl #[.slice Ao21 y298.length co21] rfl (by (try simp only [List.map_toArray, List.map_cons, List.map_nil]); first | done | rfl | (simp only [List.length_drop, List.length_take]; rfl)) ?_; (with_reducible refine (turnstilelaw01_Beyond.calls k _ _ y298 false _ ?side1 ?side2 A3.out).mono ?_); (case side1 => repeat (first | exact (Kd.R_reads' HO300.out).2.2 | (with_reducible refine Kd.C_alloc ?_ _) | (with_reducible refine Kd.C_drewN ?_ _) | (with_reducible refine Kd.C_drew ?_))); (case side2 => exact (Kd.R_reads' HO300.out).2.1); rintro e w' ⟨rfl, ⟨nd, rfl⟩⟩; refine ⟨_, rfl, ?_⟩; have hcz22_0 : w19.cell? ⟨gb296, 0, none⟩ = some (.slice A0_0 l0_0.length c0_0) := (blk_cell BK296.out 0).trans rfl; have hcz22_1 : w19.cell? ⟨gb296, 1, none⟩ = some (.int .i64 a0_1) := (blk_cell BK296.out 1).trans rfl; have hcz22_2 : w19.cell? ⟨gb296, 2, none⟩ = some (.slice A0_2 l0_2.length c0_2) := (blk_cell BK296.out 2).trans rfl; have hfz22_0 := blk_frozen BK296.out 0; have hfz22_1 := blk_frozen BK296.out 1; have hfz22_2 := blk_frozen BK296.out 2) | ((with_reducible refine gate_callee (f := 49) rfl ?_); refine goesL_ (some 19) rfl rfl Try.func49 (by kernel_rfl) rfl #[.agg #[.slice A0_0 l0_0.length c0_0, .int .i64 a0_1, .slice A0_2 l0_2.length c0_2]] rfl (by (try simp only [List.map_toArray, List.map_cons, List.map_nil]); first | done | rfl | (simp only [List.length_drop, List.length_take]; rfl)) ?_; (with_reducible refine (flow_Reach.calls k _ _ l0_0 a0_1 _ _ l0_2 t302 t305 _ ?side1 ?side2 ?side3 ?side4 A11.out).mono ?_); (case side1 => repeat (first | exact (Kd.C_below HR0_0.out (by repeat (first | (with_reducible first | exact HB.out | apply below_alloc | apply pw_below_drewN | apply below_drew1 | refine below_set ?_ GE296.out) | exact HB.out))) | (with_reducible refine Kd.C_alloc ?_ _) | (with_reducible refine Kd.C_drewN ?_ _) | (with_reducible refine Kd.C_drew ?_))); (case side2 => exact HC0_0.out); (case side3 => repeat (first | exact (Kd.C_below HR0_2.out (by repeat (first | (with_reducible first | exact HB.out | apply below_alloc | apply pw_below_drewN | apply below_drew1 | refine below_set ?_ GE296.out) | exact HB.out))) | (with_reducible refine Kd.C_alloc ?_ _) | (with_reducible refine Kd.C_drewN ?_ _) | (with_reducible refine Kd.C_drew ?_))); (case side4 => exact HC0_2.out); rintro e w23 ⟨v303, rfl, ho0, hb⟩; refine ⟨_, rfl, ?_⟩; have n0_ := Aside0.mk (Kd.R_below (by (with_reducible repeat (first | apply Kd.R_alloc | apply Kd.R_drewN | apply Kd.R_drew)); exact HO300.out) hb); have n1_ := Aside0.mk (Kd.R_lower ho0 (below_size (by repeat (first | (with_reducible first | exact HB.out | apply below_alloc | apply pw_below_drewN | apply below_drew1 | refine below_set ?_ GE296.out) | exact HB.out)))); have n2_ := Aside0.mk (blk_below (g := gb296) (o := .cells #[.slice A0_0 l0_0.length c0_0, .int .i64 a0_1, .slice A0_2 l0_2.length c0_2] 25 (0, 0)) (by (with_reducible repeat (first | refine blk_drewN ?_ _ | refine blk_drew ?_ | refine blk_alloc ?_ _)); exact BK296.out) hb); have n3_ := Aside0.mk (below_step (by repeat (first | (with_reducible first | exact HB.out | apply below_alloc | apply pw_below_drewN | apply below_drew1 | refine below_set ?_ GE296.out) | exact HB.out)) hb); clear HO300; clear BK296; clear HB; have HO300 := n0_; have HO304 := n1_; have BK296 := n2_; have HB := n3_; clear n0_ n1_ n2_ n3_; (try clear hb); (try clear hb2); (try clear hk); (try clear hi); (try clear ho0); have hcz24_0 : w23.cell? ⟨gb296, 0, none⟩ = some (.slice A0_0 l0_0.length c0_0) := (blk_cell BK296.out 0).trans rfl; have hcz24_1 : w23.cell? ⟨gb296, 1, none⟩ = some (.int .i64 a0_1) := (blk_cell BK296.out 1).trans rfl; have hcz24_2 : w23.cell? ⟨gb296, 2, none⟩ = some (.slice A0_2 l0_2.length c0_2) := (blk_cell BK296.out 2).trans rfl; have hfz24_0 := blk_frozen BK296.out 0; have hfz24_1 := blk_frozen BK296.out 1; have hfz24_2 := blk_frozen BK296.out 2) | ((with_reducible refine gate_callee (f := 50) rfl ?_); refine goesL_ (some 24) rfl rfl Try.func50 (by kernel_rfl) rfl #[.agg #[.slice A0_0 l0_0.length c0_0, .int .i64 a0_1, .slice A0_2 l0_2.length c0_2]] rfl (by (try simp only [List.map_toArray, List.map_cons, List.map_nil]); first | done | rfl | (simp only [List.length_drop, List.length_take]; rfl)) ?_; (with_reducible refine (flow_Ahead.calls _ _ l0_0 a0_1 _ _ l0_2 t306 t309 _ ?side1 ?side2 ?side3 ?side4 A12.out).mono ?_); (case side1 => repeat (first | exact (Kd.C_below HR0_0.out HB.out) | (with_reducible refine Kd.C_alloc ?_ _) | (with_reducible refine Kd.C_drewN ?_ _) | (with_reducible refine Kd.C_drew ?_))); (case side2 => exact HC0_0.out); (case side3 => repeat (first | exact (Kd.C_below HR0_2.out HB.out) | (with_reducible refine Kd.C_alloc ?_ _) | (with_reducible refine Kd.C_drewN ?_ _) | (with_reducible refine Kd.C_drew ?_))); (case side4 => exact HC0_2.out); rintro e w25 ⟨v307, rfl, ho0, hb⟩; refine ⟨_, rfl, ?_⟩; have n0_ := Aside0.mk (Kd.R_below (by (with_reducible repeat (first | apply Kd.R_alloc | apply Kd.R_drewN | apply Kd.R_drew)); exact HO300.out) hb); have n1_ := Aside0.mk (Kd.R_below (by (with_reducible repeat (first | apply Kd.R_alloc | apply Kd.R_drewN | apply Kd.R_drew)); exact HO304.out) hb); have n2_ := Aside0.mk (Kd.S_lower (Kd.S_new' ho0 (Kd.R_lt (by (with_reducible repeat (first | apply Kd.R_alloc | apply Kd.R_drewN | apply Kd.R_drew)); exact HO300.out))) (below_size (by repeat (first | (with_reducible first | exact HB.out | apply below_alloc | apply pw_below_drewN | apply below_drew1 | refine below_set ?_ GE296.out) | exact HB.out)))); have n3_ := Aside0.mk (blk_below (g := gb296) (o := .cells #[.slice A0_0 l0_0.length c0_0, .int .i64 a0_1, .slice A0_2 l0_2.length c0_2] 25 (0, 0)) (by (with_reducible repeat (first | refine blk_drewN ?_ _ | refine blk_drew ?_ | refine blk_alloc ?_ _)); exact BK296.out) hb); have n4_ := Aside0.mk (below_step (by repeat (first | (with_reducible first | exact HB.out | apply below_alloc | apply pw_below_drewN | apply below_drew1 | refine below_set ?_ GE296.out) | exact HB.out)) hb); clear HO300; clear HO304; clear BK296; clear HB; have HO300 := n0_; have HO304 := n1_; have HO308 := n2_; have BK296 := n3_; have HB := n4_; clear n0_ n1_ n2_ n3_ n4_; (try clear hb); (try clear hb2); (try clear hk); (try clear hi); (try clear ho0); have hcz26_0 : w25.cell? ⟨gb296, 0, none⟩ = some (.slice A0_0 l0_0.length c0_0) := (blk_cell BK296.out 0).trans rfl; have hcz26_1 : w25.cell? ⟨gb296, 1, none⟩ = some (.int .i64 a0_1) := (blk_cell BK296.out 1).trans rfl; have hcz26_2 : w25.cell? ⟨gb296, 2, none⟩ = some (.slice A0_2 l0_2.length c0_2) := (blk_cell BK296.out 2).trans rfl; have hfz26_0 := blk_frozen BK296.out 0; have hfz26_1 := blk_frozen BK296.out 1; have hfz26_2 := blk_frozen BK296.out 2) | ((with_reducible refine gate_callee (f := 51) rfl ?_); refine goesL_ (some 29) rfl rfl Try.func51 (by kernel_rfl) rfl #[.agg #[.slice A0_0 l0_0.length c0_0, .int .i64 a0_1, .slice A0_2 l0_2.length c0_2]] rfl (by (try simp only [List.map_toArray, List.map_cons, List.map_nil]); first | done | rfl | (simp only [List.length_drop, List.length_take]; rfl)) ?_; (with_reducible refine (flow_Dom.calls _ _ l0_0 a0_1 _ _ l0_2 t310 t313 _ ?side1 ?side2 ?side3 ?side4 A13.out).mono ?_); (case side1 => repeat (first | exact (Kd.C_below HR0_0.out HB.out) | (with_reducible refine Kd.C_alloc ?_ _) | (with_reducible refine Kd.C_drewN ?_ _) | (with_reducible refine Kd.C_drew ?_))); (case side2 => exact HC0_0.out); (case side3 => repeat (first | exact (Kd.C_below HR0_2.out HB.out) | (with_reducible refine Kd.C_alloc ?_ _) | (with_reducible refine Kd.C_drewN ?_ _) | (with_reducible refine Kd.C_drew ?_))); (case side4 => exact HC0_2.out); rintro e w27 ⟨v311, rfl, ho0, hb⟩; refine ⟨_, rfl, ?_⟩; have n0_ := Aside0.mk (Kd.R_elder' (by (with_reducible repeat (first | apply Kd.R_alloc | apply Kd.R_drewN | apply Kd.R_drew)); exact HO300.out) (Kd.R_base ho0) hb); have n1_ := Aside0.mk (Kd.R_below (by (with_reducible repeat (first | apply Kd.R_alloc | apply Kd.R_drewN | apply Kd.R_drew)); exact HO304.out) hb); have n2_ := Aside0.mk (Kd.S_elder' (by (with_reducible repeat (first | apply Kd.S_alloc | apply Kd.S_drewN | apply Kd.S_drew)); exact HO308.out) (Kd.R_base ho0) hb); have n3_ := Aside0.mk (Kd.R_lower (Kd.R_new' ho0 (Kd.R_lt (by (with_reducible repeat (first | apply Kd.R_alloc | apply Kd.R_drewN | apply Kd.R_drew)); exact HO300.out))) (below_size (by repeat (first | (with_reducible first | exact HB.out | apply below_alloc | apply pw_below_drewN | apply below_drew1 | refine below_set ?_ GE296.out) | exact HB.out)))); have n4_ := Aside0.mk (blk_below (g := gb296) (o := .cells #[.slice A0_0 l0_0.length c0_0, .int .i64 a0_1, .slice A0_2 l0_2.length c0_2] 25 (0, 0)) (by (with_reducible repeat (first | refine blk_drewN ?_ _ | refine blk_drew ?_ | refine blk_alloc ?_ _)); exact BK296.out) hb); have n5_ := Aside0.mk (below_step (by repeat (first | (with_reducible first | exact HB.out | apply below_alloc | apply pw_below_drewN | apply below_drew1 | refine below_set ?_ GE296.out) | exact HB.out)) hb); clear HO300; clear HO304; clear HO308; clear BK296; clear HB; have HO300 := n0_; have HO304 := n1_; have HO308 := n2_; have HO312 := n3_; have BK296 := n4_; have HB := n5_; clear n0_ n1_ n2_ n3_ n4_ n5_; (try clear hb); (try clear hb2); (try clear hk); (try clear hi); (try clear ho0); have hcz28_0 : w27.cell? ⟨gb296, 0, none⟩ = some (.slice A0_0 l0_0.length c0_0) := (blk_cell BK296.out 0).trans rfl; have hcz28_1 : w27.cell? ⟨gb296, 1, none⟩ = some (.int .i64 a0_1) := (blk_cell BK296.out 1).trans rfl; have hcz28_2 : w27.cell? ⟨gb296, 2, none⟩ = some (.slice A0_2 l0_2.length c0_2) := (blk_cell BK296.out 2).trans rfl; have hfz28_0 := blk_frozen BK296.out 0; have hfz28_1 := blk_frozen BK296.out 1; have hfz28_2 := blk_frozen BK296.out 2))
      (try simp only [Act.put, List.setIfInBounds_toArray, List.set_cons_zero, List.set_cons_succ])
      go_cut [94] (fun v94 wc => ∃ (kq : Nat) (x94_14 : Bool), v94 = .bool x94_14 ∧ Aside0 (turnstilelaw12_FlowDoms.j0 kq t302 t306 t310 (l0_2.length : Int) x94_14 = some r) ∧ Aside0 (kq ≤ k) ∧ Aside0 (Kd.R Kd.bool 4 wc w.heap.size (fun _ => True) v303 t302) ∧ Aside0 (Kd.S (Kd.slice 3 (Kd.int .i64)) 37 wc w.heap.size (fun k_ => some k_ ≠ (v311 : Value).ownBlock) v307 t306) ∧ Aside0 (Kd.R (Kd.int .i64) 3 wc w.heap.size (fun _ => True) v311 t310) ∧ Aside0 (wc.heap[gb296]? = some (.cells #[(.slice A0_0 l0_0.length c0_0), .int .i64 a0_1, (.slice A0_2 l0_2.length c0_2)] 25 (0, 0))) ∧ Aside0 (Below w.heap.size w wc))
      case first =>
        have H := HC15.out
        clear HC15
        by_cases c29 : t309 = 0
        · rw [if_pos c29] at H
          have c29b0 : (t309 == 0) = true := beq_iff_eq.mpr c29
          have c29b1 : (t309 != 0) = false := bne_eq_false_iff_eq.mpr c29
          clear c29
          (first | rw [c29b0] | (simp only [i64_w, i32_w]; rw [c29b0]) | skip)
          by_cases c30 : t313 = 0
          · rw [if_pos c30] at H
            have c30b0 : (t313 == 0) = true := beq_iff_eq.mpr c30
            have c30b1 : (t313 != 0) = false := bne_eq_false_iff_eq.mpr c30
            clear c30
            by_cases c31 : (t302.length : Int) = (l0_2.length : Int)
            · rw [if_pos c31] at H
              have c31b0 : ((t302.length : Int) == (l0_2.length : Int)) = true := beq_iff_eq.mpr c31
              have c31b1 : ((t302.length : Int) != (l0_2.length : Int)) = false := bne_eq_false_iff_eq.mpr c31
              have c31b2 : (t302.length == l0_2.length) = true := by first | simpa using c31 | (simp at c31 ⊢; omega)
              clear c31
              by_cases c32 : (t306.length : Int) = (l0_2.length : Int)
              · rw [if_pos c32] at H
                have c32b0 : ((t306.length : Int) == (l0_2.length : Int)) = true := beq_iff_eq.mpr c32
                have c32b1 : ((t306.length : Int) != (l0_2.length : Int)) = false := bne_eq_false_iff_eq.mpr c32
                have c32b2 : (t306.length == l0_2.length) = true := by first | simpa using c32 | (simp at c32 ⊢; omega)
                clear c32
                by_cases c33 : (t310.length : Int) = (l0_2.length : Int)
                · rw [if_pos c33] at H
                  have c33b0 : ((t310.length : Int) == (l0_2.length : Int)) = true := beq_iff_eq.mpr c33
                  have c33b1 : ((t310.length : Int) != (l0_2.length : Int)) = false := bne_eq_false_iff_eq.mpr c33
                  have c33b2 : (t310.length == l0_2.length) = true := by first | simpa using c33 | (simp at c33 ⊢; omega)
                  clear c33
                  by_cases c34 : 0 < (t302.length : Int)
                  · rw [if_pos c34] at H
                    have c34b0 : decide (0 < (t302.length : Int)) = true := decide_eq_true c34
                    have c34b1 : decide (0 < t302.length) = true := decide_eq_true (by omega)
                    clear c34
                    obtain ⟨bq35, hbq35⟩ : ∃ b_ : Bool, b_ = (rdOf false t302 0) := ⟨_, rfl⟩
                    replace H : (if bq35 = true then (if 0 < (t310.length : Int) then (turnstilelaw12_FlowDoms.j0 k t302 t306 t310 (l0_2.length : Int) ((rd t310 0) != (-1))) else (none)) else (turnstilelaw12_FlowDoms.j0 k t302 t306 t310 (l0_2.length : Int) true)) = some r := by rw [← hbq35] at H; exact H
                    have Nbq35 := Aside0.mk hbq35
                    clear hbq35
                    by_cases c36 : bq35 = true
                    · subst c36
                      have H1 : (if 0 < (t310.length : Int) then (turnstilelaw12_FlowDoms.j0 k t302 t306 t310 (l0_2.length : Int) ((rd t310 0) != (-1))) else (none)) = some r := by rw [if_pos rfl] at H; exact H
                      clear H
                      have H := H1
                      clear H1
                      by_cases c37 : 0 < (t310.length : Int)
                      · rw [if_pos c37] at H
                        have c37b0 : decide (0 < (t310.length : Int)) = true := decide_eq_true c37
                        have c37b1 : decide (0 < t310.length) = true := decide_eq_true (by omega)
                        clear c37
                        have H' := Aside0.mk H
                        clear H
                        obtain ⟨Ao38, co38, eo38⟩ := Kd.R_slice HO304.out
                        subst eo38
                        obtain ⟨Ao39, co39, eo39⟩ := Kd.S_slice HO308.out
                        subst eo39
                        obtain ⟨Ao40, co40, eo40⟩ := Kd.R_slice HO312.out
                        subst eo40
                        have p315 : 0 ≤ (0 : Int) := (by omega)
                        have q315 : 0 < (t302.length : Int) := of_decide_eq_true (by first | (with_reducible assumption) | assumption)
                        obtain ⟨ad315, e315, hx315_0⟩ := Kd.at_bool (Kd.R_reads' HO304.out).2.2 0 p315 q315
                        (try rw [← Nbq35.out] at hx315_0)
                        cases e315
                        have qi315 : (0 < t302.length) = True := eq_true (by omega)
                        (try rw [show ((0 : Int)).toNat = 0 from rfl] at hx315_0)
                        (try rw [Addr.add_zero'] at hx315_0)
                        replace p315 := eq_true p315
                        replace q315 := eq_true q315
                        have p316 : 0 ≤ (0 : Int) := (by omega)
                        have q316 : 0 < (t310.length : Int) := of_decide_eq_true (by first | (with_reducible assumption) | assumption)
                        obtain ⟨ad316, e316, hx316_0⟩ := Kd.at_int (Kd.R_reads' HO312.out).2.2 0 p316 q316
                        cases e316
                        have qi316 : (0 < t310.length) = True := eq_true (by omega)
                        (try rw [show ((0 : Int)).toNat = 0 from rfl] at hx316_0)
                        (try rw [Addr.add_zero'] at hx316_0)
                        replace p316 := eq_true p316
                        replace q316 := eq_true q316
                        go_wp2
                        go_meet
                        case rel => exact ⟨_, (((rd t310 0) != (-1))), (by first | rfl | (simp; done) | (simp [*]; done)), H', ⟨by first | omega | exact Nat.le_refl _⟩, ⟨by (with_reducible repeat (first | apply Kd.R_alloc | apply Kd.R_drewN | apply Kd.R_drew)); exact HO304.out⟩, ⟨by (with_reducible repeat (first | apply Kd.S_alloc | apply Kd.S_drewN | apply Kd.S_drew)); exact Kd.S_mono HO308.out (fun _ hk => hk.2)⟩, ⟨by (with_reducible repeat (first | apply Kd.R_alloc | apply Kd.R_drewN | apply Kd.R_drew)); exact Kd.R_mono HO312.out (fun _ hk => trivial)⟩, ⟨by (with_reducible repeat (first | refine blk_drewN ?_ _ | refine blk_drew ?_ | refine blk_alloc ?_ _)); exact BK296.out⟩, ⟨by repeat (first | (with_reducible first | exact HB.out | apply below_alloc | apply pw_below_drewN | apply below_drew1 | refine below_set ?_ GE296.out) | exact HB.out)⟩⟩
                      · rw [if_neg c37] at H
                        exact absurd H (by simp)
                    · replace c36 := Bool.eq_false_iff.mpr c36
                      subst c36
                      have H1 : (turnstilelaw12_FlowDoms.j0 k t302 t306 t310 (l0_2.length : Int) true) = some r := by rw [if_neg (show ¬ (false = true) by decide)] at H; exact H
                      clear H
                      have H := H1
                      clear H1
                      have H' := Aside0.mk H
                      clear H
                      obtain ⟨Ao41, co41, eo41⟩ := Kd.R_slice HO304.out
                      subst eo41
                      obtain ⟨Ao42, co42, eo42⟩ := Kd.S_slice HO308.out
                      subst eo42
                      obtain ⟨Ao43, co43, eo43⟩ := Kd.R_slice HO312.out
                      subst eo43
                      have p315 : 0 ≤ (0 : Int) := (by omega)
                      have q315 : 0 < (t302.length : Int) := of_decide_eq_true (by first | (with_reducible assumption) | assumption)
                      obtain ⟨ad315, e315, hx315_0⟩ := Kd.at_bool (Kd.R_reads' HO304.out).2.2 0 p315 q315
                      (try rw [← Nbq35.out] at hx315_0)
                      cases e315
                      have qi315 : (0 < t302.length) = True := eq_true (by omega)
                      (try rw [show ((0 : Int)).toNat = 0 from rfl] at hx315_0)
                      (try rw [Addr.add_zero'] at hx315_0)
                      replace p315 := eq_true p315
                      replace q315 := eq_true q315
                      go_wp2
                      go_meet
                      case rel => exact ⟨_, (true), (by first | rfl | (simp; done) | (simp [*]; done)), H', ⟨by first | omega | exact Nat.le_refl _⟩, ⟨by (with_reducible repeat (first | apply Kd.R_alloc | apply Kd.R_drewN | apply Kd.R_drew)); exact HO304.out⟩, ⟨by (with_reducible repeat (first | apply Kd.S_alloc | apply Kd.S_drewN | apply Kd.S_drew)); exact Kd.S_mono HO308.out (fun _ hk => hk.2)⟩, ⟨by (with_reducible repeat (first | apply Kd.R_alloc | apply Kd.R_drewN | apply Kd.R_drew)); exact Kd.R_mono HO312.out (fun _ hk => trivial)⟩, ⟨by (with_reducible repeat (first | refine blk_drewN ?_ _ | refine blk_drew ?_ | refine blk_alloc ?_ _)); exact BK296.out⟩, ⟨by repeat (first | (with_reducible first | exact HB.out | apply below_alloc | apply pw_below_drewN | apply below_drew1 | refine below_set ?_ GE296.out) | exact HB.out)⟩⟩
                  · rw [if_neg c34] at H
                    exact absurd H (by simp)
                · rw [if_neg c33] at H
                  have c33b0 : ((t310.length : Int) == (l0_2.length : Int)) = false := beq_eq_false_iff_ne.mpr c33
                  have c33b1 : ((t310.length : Int) != (l0_2.length : Int)) = true := bne_iff_ne.mpr c33
                  have c33b2 : (t310.length == l0_2.length) = false := by first | simpa using c33 | (simp at c33 ⊢; omega)
                  have H' := Aside0.mk H
                  clear H
                  obtain ⟨Ao44, co44, eo44⟩ := Kd.R_slice HO304.out
                  subst eo44
                  obtain ⟨Ao45, co45, eo45⟩ := Kd.S_slice HO308.out
                  subst eo45
                  obtain ⟨Ao46, co46, eo46⟩ := Kd.R_slice HO312.out
                  subst eo46
                  go_wp2
                  go_meet
                  case rel => exact ⟨_, (true), (by first | rfl | (simp; done) | (simp [*]; done)), H', ⟨by first | omega | exact Nat.le_refl _⟩, ⟨by (with_reducible repeat (first | apply Kd.R_alloc | apply Kd.R_drewN | apply Kd.R_drew)); exact HO304.out⟩, ⟨by (with_reducible repeat (first | apply Kd.S_alloc | apply Kd.S_drewN | apply Kd.S_drew)); exact Kd.S_mono HO308.out (fun _ hk => hk.2)⟩, ⟨by (with_reducible repeat (first | apply Kd.R_alloc | apply Kd.R_drewN | apply Kd.R_drew)); exact Kd.R_mono HO312.out (fun _ hk => trivial)⟩, ⟨by (with_reducible repeat (first | refine blk_drewN ?_ _ | refine blk_drew ?_ | refine blk_alloc ?_ _)); exact BK296.out⟩, ⟨by repeat (first | (with_reducible first | exact HB.out | apply below_alloc | apply pw_below_drewN | apply below_drew1 | refine below_set ?_ GE296.out) | exact HB.out)⟩⟩
              · rw [if_neg c32] at H
                have c32b0 : ((t306.length : Int) == (l0_2.length : Int)) = false := beq_eq_false_iff_ne.mpr c32
                have c32b1 : ((t306.length : Int) != (l0_2.length : Int)) = true := bne_iff_ne.mpr c32
                have c32b2 : (t306.length == l0_2.length) = false := by first | simpa using c32 | (simp at c32 ⊢; omega)
                have H' := Aside0.mk H
                clear H
                obtain ⟨Ao47, co47, eo47⟩ := Kd.R_slice HO304.out
                subst eo47
                obtain ⟨Ao48, co48, eo48⟩ := Kd.S_slice HO308.out
                subst eo48
                go_wp2
                go_meet
                case rel => exact ⟨_, (true), (by first | rfl | (simp; done) | (simp [*]; done)), H', ⟨by first | omega | exact Nat.le_refl _⟩, ⟨by (with_reducible repeat (first | apply Kd.R_alloc | apply Kd.R_drewN | apply Kd.R_drew)); exact HO304.out⟩, ⟨by (with_reducible repeat (first | apply Kd.S_alloc | apply Kd.S_drewN | apply Kd.S_drew)); exact Kd.S_mono HO308.out (fun _ hk => hk.2)⟩, ⟨by (with_reducible repeat (first | apply Kd.R_alloc | apply Kd.R_drewN | apply Kd.R_drew)); exact Kd.R_mono HO312.out (fun _ hk => trivial)⟩, ⟨by (with_reducible repeat (first | refine blk_drewN ?_ _ | refine blk_drew ?_ | refine blk_alloc ?_ _)); exact BK296.out⟩, ⟨by repeat (first | (with_reducible first | exact HB.out | apply below_alloc | apply pw_below_drewN | apply below_drew1 | refine below_set ?_ GE296.out) | exact HB.out)⟩⟩
            · rw [if_neg c31] at H
              have c31b0 : ((t302.length : Int) == (l0_2.length : Int)) = false := beq_eq_false_iff_ne.mpr c31
              have c31b1 : ((t302.length : Int) != (l0_2.length : Int)) = true := bne_iff_ne.mpr c31
              have c31b2 : (t302.length == l0_2.length) = false := by first | simpa using c31 | (simp at c31 ⊢; omega)
              have H' := Aside0.mk H
              clear H
              obtain ⟨Ao49, co49, eo49⟩ := Kd.R_slice HO304.out
              subst eo49
              go_wp2
              go_meet
              case rel => exact ⟨_, (true), (by first | rfl | (simp; done) | (simp [*]; done)), H', ⟨by first | omega | exact Nat.le_refl _⟩, ⟨by (with_reducible repeat (first | apply Kd.R_alloc | apply Kd.R_drewN | apply Kd.R_drew)); exact HO304.out⟩, ⟨by (with_reducible repeat (first | apply Kd.S_alloc | apply Kd.S_drewN | apply Kd.S_drew)); exact Kd.S_mono HO308.out (fun _ hk => hk.2)⟩, ⟨by (with_reducible repeat (first | apply Kd.R_alloc | apply Kd.R_drewN | apply Kd.R_drew)); exact Kd.R_mono HO312.out (fun _ hk => trivial)⟩, ⟨by (with_reducible repeat (first | refine blk_drewN ?_ _ | refine blk_drew ?_ | refine blk_alloc ?_ _)); exact BK296.out⟩, ⟨by repeat (first | (with_reducible first | exact HB.out | apply below_alloc | apply pw_below_drewN | apply below_drew1 | refine below_set ?_ GE296.out) | exact HB.out)⟩⟩
          · rw [if_neg c30] at H
            have c30b0 : (t313 == 0) = false := beq_eq_false_iff_ne.mpr c30
            have c30b1 : (t313 != 0) = true := bne_iff_ne.mpr c30
            have H' := Aside0.mk H
            clear H
            go_wp2
            go_meet
            case rel => exact ⟨_, (true), (by first | rfl | (simp; done) | (simp [*]; done)), H', ⟨by first | omega | exact Nat.le_refl _⟩, ⟨by (with_reducible repeat (first | apply Kd.R_alloc | apply Kd.R_drewN | apply Kd.R_drew)); exact HO304.out⟩, ⟨by (with_reducible repeat (first | apply Kd.S_alloc | apply Kd.S_drewN | apply Kd.S_drew)); exact Kd.S_mono HO308.out (fun _ hk => hk.2)⟩, ⟨by (with_reducible repeat (first | apply Kd.R_alloc | apply Kd.R_drewN | apply Kd.R_drew)); exact Kd.R_mono HO312.out (fun _ hk => trivial)⟩, ⟨by (with_reducible repeat (first | refine blk_drewN ?_ _ | refine blk_drew ?_ | refine blk_alloc ?_ _)); exact BK296.out⟩, ⟨by repeat (first | (with_reducible first | exact HB.out | apply below_alloc | apply pw_below_drewN | apply below_drew1 | refine below_set ?_ GE296.out) | exact HB.out)⟩⟩
        · rw [if_neg c29] at H
          have c29b0 : (t309 == 0) = false := beq_eq_false_iff_ne.mpr c29
          have c29b1 : (t309 != 0) = true := bne_iff_ne.mpr c29
          (first | rw [c29b0] | (simp only [i64_w, i32_w]; rw [c29b0]) | skip)
          have H' := Aside0.mk H
          clear H
          go_wp2
          go_meet
          case rel => exact ⟨_, (true), (by first | rfl | (simp; done) | (simp [*]; done)), H', ⟨by first | omega | exact Nat.le_refl _⟩, ⟨by (with_reducible repeat (first | apply Kd.R_alloc | apply Kd.R_drewN | apply Kd.R_drew)); exact HO304.out⟩, ⟨by (with_reducible repeat (first | apply Kd.S_alloc | apply Kd.S_drewN | apply Kd.S_drew)); exact Kd.S_mono HO308.out (fun _ hk => hk.2)⟩, ⟨by (with_reducible repeat (first | apply Kd.R_alloc | apply Kd.R_drewN | apply Kd.R_drew)); exact Kd.R_mono HO312.out (fun _ hk => trivial)⟩, ⟨by (with_reducible repeat (first | refine blk_drewN ?_ _ | refine blk_drew ?_ | refine blk_alloc ?_ _)); exact BK296.out⟩, ⟨by repeat (first | (with_reducible first | exact HB.out | apply below_alloc | apply pw_below_drewN | apply below_drew1 | refine below_set ?_ GE296.out) | exact HB.out)⟩⟩
      case rest =>
        clear HC15
        try clear c1
        try clear c2
        try clear p2
        try clear c3
        try clear p3
        try clear q3
        try clear hx3
        try clear qi3
        try clear c4
        try clear c5
        try clear p6
        try clear c11
        try clear c13
        try clear c14
        try clear c14b0
        try clear c14b1
        try clear c29
        try clear c29b0
        try clear c29b1
        try clear c30
        try clear c30b0
        try clear c30b1
        try clear c31
        try clear c31b0
        try clear c31b1
        try clear c31b2
        try clear p31
        try clear q31
        try clear hx31
        try clear qi31
        try clear c32
        try clear c32b0
        try clear c32b1
        try clear c32b2
        try clear c33
        try clear c33b0
        try clear c33b1
        try clear c33b2
        try clear c34
        try clear c34b0
        try clear c34b1
        try clear q35
        try clear c36
        try clear c37
        try clear c37b0
        try clear c37b1
        try clear c49
        try clear hcz17_0
        try clear hcz17_1
        try clear hcz17_2
        try clear hcz22_0
        try clear hcz22_1
        try clear hcz22_2
        try clear hcz24_0
        try clear hcz24_1
        try clear hcz24_2
        try clear hcz26_0
        try clear hcz26_1
        try clear hcz26_2
        try clear hcz28_0
        try clear hcz28_1
        try clear hcz28_2
        try clear hcz6_0
        try clear hcz6_1
        try clear hcz6_2
        try clear hfz17_0
        try clear hfz17_1
        try clear hfz17_2
        try clear hfz22_0
        try clear hfz22_1
        try clear hfz22_2
        try clear hfz24_0
        try clear hfz24_1
        try clear hfz24_2
        try clear hfz26_0
        try clear hfz26_1
        try clear hfz26_2
        try clear hfz28_0
        try clear hfz28_1
        try clear hfz28_2
        try clear hfz6_0
        try clear hfz6_1
        try clear hfz6_2
        try clear hx315_0
        try clear hx316_0
        try clear p315
        try clear p316
        try clear q315
        try clear q316
        obtain ⟨kq, x94_14, rfl, HA, HJ14, HO_3, HO_5, HO_7, BK296, HB⟩ := hcut
        cases kq with
        | zero => exact absurd HA.out (by simp [turnstilelaw12_FlowDoms.j0])
        | succ kj14 =>
          have H := HA.out
          clear HA
          simp only [turnstilelaw12_FlowDoms.j0] at H
          by_cases c50 : x94_14 = true
          · subst c50
            have H1 : (some false) = some r := by rw [if_pos rfl] at H; exact H
            clear H
            have H := H1
            clear H1
            obtain rfl := Option.some.inj H
            go_wp2
            go_ret
            exact ⟨by first | rfl | (simp [errW_none, errW_some] <;> rfl) | (simp [*, errW_none, errW_some] <;> rfl), by repeat (first | (with_reducible first | exact HB.out | apply below_alloc | apply pw_below_drewN | apply below_drew1 | refine below_set ?_ GE296.out) | exact HB.out)⟩
          · replace c50 := Bool.eq_false_iff.mpr c50
            subst c50
            have H1 : (turnstilelaw12_FlowDoms.l0 kj14 t302 t306 t310 (l0_2.length : Int) 1) = some r := by rw [if_neg (show ¬ (false = true) by decide)] at H; exact H
            clear H
            have H := H1
            clear H1
            have H' := Aside0.mk H
            clear H
            go_wp2
            go_loopg [10] kj14 (fun kq v10 w' => ∃ (x10_2 : Int), v10 = .int .i64 x10_2 ∧ Aside0 (turnstilelaw12_FlowDoms.l0 kq t302 t306 t310 (l0_2.length : Int) x10_2 = some r) ∧ Aside0 (kq ≤ kj14) ∧ Aside0 (Kd.R Kd.bool 4 w' w.heap.size (fun _ => True) v303 t302) ∧ Aside0 (Kd.S (Kd.slice 3 (Kd.int .i64)) 37 w' w.heap.size (fun k_ => some k_ ≠ (v311 : Value).ownBlock) v307 t306) ∧ Aside0 (Kd.R (Kd.int .i64) 3 w' w.heap.size (fun _ => True) v311 t310) ∧ Aside0 (w'.heap[gb296]? = some (.cells #[(.slice A0_0 l0_0.length c0_0), .int .i64 a0_1, (.slice A0_2 l0_2.length c0_2)] 25 (0, 0))) ∧ Aside0 (Below w.heap.size w w'))
            case atStart => exact ⟨(1), (by first | rfl | (simp; done) | (simp [*]; done)), H', ⟨Nat.le_refl _⟩, ⟨by (with_reducible repeat (first | apply Kd.R_alloc | apply Kd.R_drewN | apply Kd.R_drew)); exact HO_3.out⟩, ⟨by (with_reducible repeat (first | apply Kd.S_alloc | apply Kd.S_drewN | apply Kd.S_drew)); exact HO_5.out⟩, ⟨by (with_reducible repeat (first | apply Kd.R_alloc | apply Kd.R_drewN | apply Kd.R_drew)); exact HO_7.out⟩, ⟨by (with_reducible repeat (first | refine blk_drewN ?_ _ | refine blk_drew ?_ | refine blk_alloc ?_ _)); exact BK296.out⟩, ⟨by repeat (first | (with_reducible first | exact HB.out | apply below_alloc | apply pw_below_drewN | apply below_drew1 | refine below_set ?_ GE296.out) | exact HB.out)⟩⟩
            case round =>
              clear H'
              try clear c1
              try clear c2
              try clear p2
              try clear c3
              try clear p3
              try clear q3
              try clear hx3
              try clear qi3
              try clear c4
              try clear c5
              try clear p6
              try clear c11
              try clear c13
              try clear c14
              try clear c14b0
              try clear c14b1
              try clear c29
              try clear c29b0
              try clear c29b1
              try clear c30
              try clear c30b0
              try clear c30b1
              try clear c31
              try clear c31b0
              try clear c31b1
              try clear c31b2
              try clear p31
              try clear q31
              try clear hx31
              try clear qi31
              try clear c32
              try clear c32b0
              try clear c32b1
              try clear c32b2
              try clear c33
              try clear c33b0
              try clear c33b1
              try clear c33b2
              try clear c34
              try clear c34b0
              try clear c34b1
              try clear q35
              try clear c36
              try clear c37
              try clear c37b0
              try clear c37b1
              try clear c49
              try clear c50
              try clear hcz17_0
              try clear hcz17_1
              try clear hcz17_2
              try clear hcz22_0
              try clear hcz22_1
              try clear hcz22_2
              try clear hcz24_0
              try clear hcz24_1
              try clear hcz24_2
              try clear hcz26_0
              try clear hcz26_1
              try clear hcz26_2
              try clear hcz28_0
              try clear hcz28_1
              try clear hcz28_2
              try clear hcz6_0
              try clear hcz6_1
              try clear hcz6_2
              try clear hfz17_0
              try clear hfz17_1
              try clear hfz17_2
              try clear hfz22_0
              try clear hfz22_1
              try clear hfz22_2
              try clear hfz24_0
              try clear hfz24_1
              try clear hfz24_2
              try clear hfz26_0
              try clear hfz26_1
              try clear hfz26_2
              try clear hfz28_0
              try clear hfz28_1
              try clear hfz28_2
              try clear hfz6_0
              try clear hfz6_1
              try clear hfz6_2
              try clear hx315_0
              try clear hx316_0
              try clear p2
              try clear p3
              try clear p31
              try clear p315
              try clear p316
              try clear p6
              try clear q3
              try clear q31
              try clear q315
              try clear q316
              try clear q35
              obtain ⟨x10_2, rfl, HA, HK2, HO_3, HO_5, HO_7, BK296, HB⟩ := hrel
              cases gk with
              | zero => exact absurd HA.out (by simp [turnstilelaw12_FlowDoms.l0])
              | succ k2 =>
                have H := HA.out
                clear HA
                simp only [turnstilelaw12_FlowDoms.l0] at H
                by_cases c51 : x10_2 < (l0_2.length : Int)
                · rw [if_pos c51] at H
                  have c51b0 : decide (x10_2 < (l0_2.length : Int)) = true := decide_eq_true c51
                  clear c51
                  by_cases c52 : 0 ≤ x10_2
                  · rw [if_pos c52] at H
                    have c52b0 : decide (0 ≤ x10_2) = true := decide_eq_true c52
                    clear c52
                    by_cases c53 : x10_2 < (t302.length : Int)
                    · rw [if_pos c53] at H
                      have c53b0 : decide (x10_2 < (t302.length : Int)) = true := decide_eq_true c53
                      clear c53
                      obtain ⟨bq54, hbq54⟩ : ∃ b_ : Bool, b_ = (rdOf false t302 x10_2) := ⟨_, rfl⟩
                      replace H : (if bq54 = true then (turnstilelaw12_FlowDoms.l1 k2 t302 t306 t310 (l0_2.length : Int) x10_2 x10_2 0) else (if x10_2 < (t306.length : Int) then (if ((rd_L13 t306 x10_2).length : Int) > 0 then (some false) else (if x10_2 < (t310.length : Int) then (if (rd t310 x10_2) = (-1) then (turnstilelaw12_FlowDoms.l0 k2 t302 t306 t310 (l0_2.length : Int) (wrap64 (x10_2 + 1))) else (some false)) else (none))) else (none))) = some r := by rw [← hbq54] at H; exact H
                      have Nbq54 := Aside0.mk hbq54
                      clear hbq54
                      by_cases c55 : bq54 = true
                      · subst c55
                        have H1 : (turnstilelaw12_FlowDoms.l1 k2 t302 t306 t310 (l0_2.length : Int) x10_2 x10_2 0) = some r := by rw [if_pos rfl] at H; exact H
                        clear H
                        have H := H1
                        clear H1
                        have H' := Aside0.mk H
                        clear H
                        obtain ⟨Ao56, co56, eo56⟩ := Kd.R_slice HO_3.out
                        subst eo56
                        have p318 : 0 ≤ (x10_2 : Int) := of_decide_eq_true (by first | (with_reducible assumption) | assumption)
                        have q318 : x10_2 < (t302.length : Int) := of_decide_eq_true (by first | (with_reducible assumption) | assumption)
                        obtain ⟨ad318, e318, hx318_0⟩ := Kd.at_bool (Kd.R_reads' HO_3.out).2.2 x10_2 p318 q318
                        (try rw [← Nbq54.out] at hx318_0)
                        cases e318
                        replace p318 := eq_true p318
                        replace q318 := eq_true q318
                        go_wp2
                        go_loopg [11, 12] k2 (fun kq v11 v12 w' => ∃ (x11_3 : Int) (x12_3 : Int), v11 = .int .i64 x11_3 ∧ v12 = .int .i64 x12_3 ∧ Aside0 (turnstilelaw12_FlowDoms.l1 kq t302 t306 t310 (l0_2.length : Int) x10_2 x11_3 x12_3 = some r) ∧ Aside0 (kq ≤ k2) ∧ Aside0 (Kd.R Kd.bool 4 w' w.heap.size (fun _ => True) (.slice (some ad318) t302.length co56) t302) ∧ Aside0 (Kd.S (Kd.slice 3 (Kd.int .i64)) 37 w' w.heap.size (fun k_ => some k_ ≠ (v311 : Value).ownBlock) v307 t306) ∧ Aside0 (Kd.R (Kd.int .i64) 3 w' w.heap.size (fun _ => True) v311 t310) ∧ Aside0 (w'.heap[gb296]? = some (.cells #[(.slice A0_0 l0_0.length c0_0), .int .i64 a0_1, (.slice A0_2 l0_2.length c0_2)] 25 (0, 0))) ∧ Aside0 (Below w.heap.size w w'))
                        case atStart => exact ⟨(x10_2), (0), (by first | rfl | (simp; done) | (simp [*]; done)), (by first | rfl | (simp; done) | (simp [*]; done)), H', ⟨Nat.le_refl _⟩, ⟨by (with_reducible repeat (first | apply Kd.R_alloc | apply Kd.R_drewN | apply Kd.R_drew)); exact HO_3.out⟩, ⟨by (with_reducible repeat (first | apply Kd.S_alloc | apply Kd.S_drewN | apply Kd.S_drew)); exact HO_5.out⟩, ⟨by (with_reducible repeat (first | apply Kd.R_alloc | apply Kd.R_drewN | apply Kd.R_drew)); exact HO_7.out⟩, ⟨by (with_reducible repeat (first | refine blk_drewN ?_ _ | refine blk_drew ?_ | refine blk_alloc ?_ _)); exact BK296.out⟩, ⟨by repeat (first | (with_reducible first | exact HB.out | apply below_alloc | apply pw_below_drewN | apply below_drew1 | refine below_set ?_ GE296.out) | exact HB.out)⟩⟩
                        case round =>
                          clear H'
                          try clear c1
                          try clear c2
                          try clear p2
                          try clear c3
                          try clear p3
                          try clear q3
                          try clear hx3
                          try clear qi3
                          try clear c4
                          try clear c5
                          try clear q5
                          try clear p6
                          try clear c11
                          try clear c13
                          try clear c14
                          try clear c14b0
                          try clear c14b1
                          try clear c29
                          try clear c29b0
                          try clear c29b1
                          try clear c30
                          try clear c30b0
                          try clear c30b1
                          try clear c31
                          try clear c31b0
                          try clear c31b1
                          try clear c31b2
                          try clear p31
                          try clear q31
                          try clear hx31
                          try clear qi31
                          try clear c32
                          try clear c32b0
                          try clear c32b1
                          try clear c32b2
                          try clear c33
                          try clear c33b0
                          try clear c33b1
                          try clear c33b2
                          try clear c34
                          try clear c34b0
                          try clear c34b1
                          try clear q35
                          try clear c36
                          try clear c37
                          try clear c37b0
                          try clear c37b1
                          try clear c49
                          try clear c50
                          try clear c51
                          try clear c51b0
                          try clear c52
                          try clear c52b0
                          try clear c53
                          try clear c53b0
                          try clear q54
                          try clear c55
                          try clear hcz17_0
                          try clear hcz17_1
                          try clear hcz17_2
                          try clear hcz22_0
                          try clear hcz22_1
                          try clear hcz22_2
                          try clear hcz24_0
                          try clear hcz24_1
                          try clear hcz24_2
                          try clear hcz26_0
                          try clear hcz26_1
                          try clear hcz26_2
                          try clear hcz28_0
                          try clear hcz28_1
                          try clear hcz28_2
                          try clear hcz6_0
                          try clear hcz6_1
                          try clear hcz6_2
                          try clear hfz17_0
                          try clear hfz17_1
                          try clear hfz17_2
                          try clear hfz22_0
                          try clear hfz22_1
                          try clear hfz22_2
                          try clear hfz24_0
                          try clear hfz24_1
                          try clear hfz24_2
                          try clear hfz26_0
                          try clear hfz26_1
                          try clear hfz26_2
                          try clear hfz28_0
                          try clear hfz28_1
                          try clear hfz28_2
                          try clear hfz6_0
                          try clear hfz6_1
                          try clear hfz6_2
                          try clear hx315_0
                          try clear hx316_0
                          try clear hx318_0
                          try clear p2
                          try clear p3
                          try clear p31
                          try clear p315
                          try clear p316
                          try clear p318
                          try clear p6
                          try clear q3
                          try clear q31
                          try clear q315
                          try clear q316
                          try clear q318
                          try clear q35
                          obtain ⟨x11_3, x12_3, rfl, rfl, HA, HK3, HO_3, HO_5, HO_7, BK296, HB⟩ := hrel
                          cases gk with
                          | zero => exact absurd HA.out (by simp [turnstilelaw12_FlowDoms.l1])
                          | succ k3 =>
                            have H := HA.out
                            clear HA
                            simp only [turnstilelaw12_FlowDoms.l1] at H
                            by_cases c57 : x11_3 = 0
                            · rw [if_pos c57] at H
                              have c57b0 : (x11_3 == 0) = true := beq_iff_eq.mpr c57
                              have c57b1 : (x11_3 != 0) = false := bne_eq_false_iff_eq.mpr c57
                              clear c57
                              by_cases c58 : 0 ≤ x10_2
                              · rw [if_pos c58] at H
                                have c58b0 : decide (0 ≤ x10_2) = true := decide_eq_true c58
                                clear c58
                                by_cases c59 : x10_2 < (t306.length : Int)
                                · rw [if_pos c59] at H
                                  have c59b0 : decide (x10_2 < (t306.length : Int)) = true := decide_eq_true c59
                                  clear c59
                                  by_cases c60 : ((rd_L13 t306 x10_2).length : Int) = 0
                                  · rw [if_pos c60] at H
                                    have c60b0 : (((rd_L13 t306 x10_2).length : Int) == 0) = true := beq_iff_eq.mpr c60
                                    have c60b1 : (((rd_L13 t306 x10_2).length : Int) != 0) = false := bne_eq_false_iff_eq.mpr c60
                                    clear c60
                                    obtain rfl := Option.some.inj H
                                    obtain ⟨Ao61, co61, eo61⟩ := Kd.S_slice HO_5.out
                                    subst eo61
                                    have p321 : 0 ≤ (x10_2 : Int) := of_decide_eq_true (by first | (with_reducible assumption) | assumption)
                                    have q321 : x10_2 < (t306.length : Int) := of_decide_eq_true (by first | (with_reducible assumption) | assumption)
                                    obtain ⟨ad321, A321_0, c321_0, e321, hx321_0, hl321_0, hi321_0⟩ := at_L13 (Kd.S_reads' HO_5.out).2.2 x10_2 p321 q321
                                    cases e321
                                    obtain ⟨ce321, hce321, hMe321, hcc321⟩ := Kd.S_get HO_5.out [] x10_2 p321 (by first | exact q321 | exact of_decide_eq_true (by first | (with_reducible assumption) | assumption) | (have e_ := (Kd.S_reads' HO_5.out).1; omega))
                                    obtain ⟨ve321_0, rfl, ge321_0⟩ := hMe321
                                    have hv321_0 := hcc321 0 _ rfl
                                    rw [Nat.add_zero, show ((Kd.slice 3 (Kd.int .i64))).sz = 1 from rfl, Nat.mul_one] at hv321_0
                                    replace hv321_0 := Option.some.inj (hv321_0.symm.trans hx321_0)
                                    rw [hv321_0] at ge321_0
                                    have HL321_0 := Aside0.mk (show Kd.R (Kd.int .i64) 3 _ _ _ _ (rd_L13 t306 x10_2) from ge321_0)
                                    clear hv321_0 ge321_0
                                    clear hcc321 hce321
                                    have HR321_0 := Aside0.mk hi321_0
                                    have HC321_0 := Aside0.mk hl321_0
                                    clear hi321_0 hl321_0
                                    replace p321 := eq_true p321
                                    replace q321 := eq_true q321
                                    go_wp2
                                    go_ret
                                    exact ⟨by first | rfl | (simp [errW_none, errW_some] <;> rfl) | (simp [*, errW_none, errW_some] <;> rfl), by repeat (first | (with_reducible first | exact HB.out | apply below_alloc | apply pw_below_drewN | apply below_drew1 | refine below_set ?_ GE296.out) | exact HB.out)⟩
                                  · rw [if_neg c60] at H
                                    have c60b0 : (((rd_L13 t306 x10_2).length : Int) == 0) = false := beq_eq_false_iff_ne.mpr c60
                                    have c60b1 : (((rd_L13 t306 x10_2).length : Int) != 0) = true := bne_iff_ne.mpr c60
                                    have c60b2 : ¬ ((rd_L13 t306 x10_2) = []) := fun h_ => c60 (by rw [h_]; rfl)
                                    have H' := Aside0.mk H
                                    clear H
                                    obtain ⟨Ao62, co62, eo62⟩ := Kd.S_slice HO_5.out
                                    subst eo62
                                    have p321 : 0 ≤ (x10_2 : Int) := of_decide_eq_true (by first | (with_reducible assumption) | assumption)
                                    have q321 : x10_2 < (t306.length : Int) := of_decide_eq_true (by first | (with_reducible assumption) | assumption)
                                    obtain ⟨ad321, A321_0, c321_0, e321, hx321_0, hl321_0, hi321_0⟩ := at_L13 (Kd.S_reads' HO_5.out).2.2 x10_2 p321 q321
                                    cases e321
                                    obtain ⟨ce321, hce321, hMe321, hcc321⟩ := Kd.S_get HO_5.out [] x10_2 p321 (by first | exact q321 | exact of_decide_eq_true (by first | (with_reducible assumption) | assumption) | (have e_ := (Kd.S_reads' HO_5.out).1; omega))
                                    obtain ⟨ve321_0, rfl, ge321_0⟩ := hMe321
                                    have hv321_0 := hcc321 0 _ rfl
                                    rw [Nat.add_zero, show ((Kd.slice 3 (Kd.int .i64))).sz = 1 from rfl, Nat.mul_one] at hv321_0
                                    replace hv321_0 := Option.some.inj (hv321_0.symm.trans hx321_0)
                                    rw [hv321_0] at ge321_0
                                    have HL321_0 := Aside0.mk (show Kd.R (Kd.int .i64) 3 _ _ _ _ (rd_L13 t306 x10_2) from ge321_0)
                                    clear hv321_0 ge321_0
                                    clear hcc321 hce321
                                    have HR321_0 := Aside0.mk hi321_0
                                    have HC321_0 := Aside0.mk hl321_0
                                    clear hi321_0 hl321_0
                                    replace p321 := eq_true p321
                                    replace q321 := eq_true q321
                                    go_wp2
                                    go_roundg k3
                                    case measure => have := HJ14.out; have := HK2.out; have := HK3.out; omega
                                    case rel => exact ⟨(wrap64 (x10_2 + 1)), (by first | rfl | (simp; done) | (simp [*]; done)), H', ⟨by have := HJ14.out; have := HK2.out; have := HK3.out; omega⟩, ⟨by (with_reducible repeat (first | apply Kd.R_alloc | apply Kd.R_drewN | apply Kd.R_drew)); exact HO_3.out⟩, ⟨by (with_reducible repeat (first | apply Kd.S_alloc | apply Kd.S_drewN | apply Kd.S_drew)); exact HO_5.out⟩, ⟨by (with_reducible repeat (first | apply Kd.R_alloc | apply Kd.R_drewN | apply Kd.R_drew)); exact HO_7.out⟩, ⟨by (with_reducible repeat (first | refine blk_drewN ?_ _ | refine blk_drew ?_ | refine blk_alloc ?_ _)); exact BK296.out⟩, ⟨by repeat (first | (with_reducible first | exact HB.out | apply below_alloc | apply pw_below_drewN | apply below_drew1 | refine below_set ?_ GE296.out) | exact HB.out)⟩⟩
                                · rw [if_neg c59] at H
                                  exact absurd H (by simp)
                              · rw [if_neg c58] at H
                                exact absurd H (by simp)
                            · rw [if_neg c57] at H
                              have c57b0 : (x11_3 == 0) = false := beq_eq_false_iff_ne.mpr c57
                              have c57b1 : (x11_3 != 0) = true := bne_iff_ne.mpr c57
                              by_cases c63 : 0 ≤ x11_3
                              · rw [if_pos c63] at H
                                have c63b0 : decide (0 ≤ x11_3) = true := decide_eq_true c63
                                clear c63
                                by_cases c64 : x11_3 < (t310.length : Int)
                                · rw [if_pos c64] at H
                                  have c64b0 : decide (x11_3 < (t310.length : Int)) = true := decide_eq_true c64
                                  clear c64
                                  by_cases c65 : x12_3 > (l0_2.length : Int)
                                  · rw [if_pos c65] at H
                                    have c65b0 : decide ((l0_2.length : Int) < x12_3) = true := decide_eq_true c65
                                    clear c65
                                    obtain rfl := Option.some.inj H
                                    obtain ⟨Ao66, co66, eo66⟩ := Kd.R_slice HO_7.out
                                    subst eo66
                                    have p322 : 0 ≤ (x11_3 : Int) := of_decide_eq_true (by first | (with_reducible assumption) | assumption)
                                    have q322 : x11_3 < (t310.length : Int) := of_decide_eq_true (by first | (with_reducible assumption) | assumption)
                                    obtain ⟨ad322, e322, hx322_0⟩ := Kd.at_int (Kd.R_reads' HO_7.out).2.2 x11_3 p322 q322
                                    cases e322
                                    replace p322 := eq_true p322
                                    replace q322 := eq_true q322
                                    go_wp2
                                    go_ret
                                    exact ⟨by first | rfl | (simp [errW_none, errW_some] <;> rfl) | (simp [*, errW_none, errW_some] <;> rfl), by repeat (first | (with_reducible first | exact HB.out | apply below_alloc | apply pw_below_drewN | apply below_drew1 | refine below_set ?_ GE296.out) | exact HB.out)⟩
                                  · rw [if_neg c65] at H
                                    have c65b0 : decide ((l0_2.length : Int) < x12_3) = false := decide_eq_false c65
                                    clear c65
                                    by_cases c67 : (rd t310 x11_3) < 0
                                    · rw [if_pos c67] at H
                                      have c67b0 : decide ((rd t310 x11_3) < 0) = true := decide_eq_true c67
                                      clear c67
                                      obtain rfl := Option.some.inj H
                                      obtain ⟨Ao68, co68, eo68⟩ := Kd.R_slice HO_7.out
                                      subst eo68
                                      have p322 : 0 ≤ (x11_3 : Int) := of_decide_eq_true (by first | (with_reducible assumption) | assumption)
                                      have q322 : x11_3 < (t310.length : Int) := of_decide_eq_true (by first | (with_reducible assumption) | assumption)
                                      obtain ⟨ad322, e322, hx322_0⟩ := Kd.at_int (Kd.R_reads' HO_7.out).2.2 x11_3 p322 q322
                                      cases e322
                                      replace p322 := eq_true p322
                                      replace q322 := eq_true q322
                                      go_wp2
                                      go_ret
                                      exact ⟨by first | rfl | (simp [errW_none, errW_some] <;> rfl) | (simp [*, errW_none, errW_some] <;> rfl), by repeat (first | (with_reducible first | exact HB.out | apply below_alloc | apply pw_below_drewN | apply below_drew1 | refine below_set ?_ GE296.out) | exact HB.out)⟩
                                    · rw [if_neg c67] at H
                                      have c67b0 : decide ((rd t310 x11_3) < 0) = false := decide_eq_false c67
                                      clear c67
                                      by_cases c69 : (rd t310 x11_3) ≥ (l0_2.length : Int)
                                      · rw [if_pos c69] at H
                                        have c69b0 : decide ((l0_2.length : Int) ≤ (rd t310 x11_3)) = true := decide_eq_true c69
                                        clear c69
                                        obtain rfl := Option.some.inj H
                                        obtain ⟨Ao70, co70, eo70⟩ := Kd.R_slice HO_7.out
                                        subst eo70
                                        have p322 : 0 ≤ (x11_3 : Int) := of_decide_eq_true (by first | (with_reducible assumption) | assumption)
                                        have q322 : x11_3 < (t310.length : Int) := of_decide_eq_true (by first | (with_reducible assumption) | assumption)
                                        obtain ⟨ad322, e322, hx322_0⟩ := Kd.at_int (Kd.R_reads' HO_7.out).2.2 x11_3 p322 q322
                                        cases e322
                                        replace p322 := eq_true p322
                                        replace q322 := eq_true q322
                                        go_wp2
                                        go_ret
                                        exact ⟨by first | rfl | (simp [errW_none, errW_some] <;> rfl) | (simp [*, errW_none, errW_some] <;> rfl), by repeat (first | (with_reducible first | exact HB.out | apply below_alloc | apply pw_below_drewN | apply below_drew1 | refine below_set ?_ GE296.out) | exact HB.out)⟩
                                      · rw [if_neg c69] at H
                                        have c69b0 : decide ((l0_2.length : Int) ≤ (rd t310 x11_3)) = false := decide_eq_false c69
                                        clear c69
                                        by_cases c71 : 0 ≤ (rd t310 x11_3)
                                        · rw [if_pos c71] at H
                                          have c71b0 : decide (0 ≤ (rd t310 x11_3)) = true := decide_eq_true c71
                                          clear c71
                                          by_cases c72 : (rd t310 x11_3) < (t302.length : Int)
                                          · rw [if_pos c72] at H
                                            have c72b0 : decide ((rd t310 x11_3) < (t302.length : Int)) = true := decide_eq_true c72
                                            clear c72
                                            obtain ⟨bq73, hbq73⟩ : ∃ b_ : Bool, b_ = (rdOf false t302 (rd t310 x11_3)) := ⟨_, rfl⟩
                                            replace H : (if (bq73 = true) then (turnstilelaw12_FlowDoms.l1 k3 t302 t306 t310 (l0_2.length : Int) x10_2 (rd t310 x11_3) (wrap64 (x12_3 + 1))) else (some false)) = some r := by rw [← hbq73] at H; exact H
                                            have Nbq73 := Aside0.mk hbq73
                                            clear hbq73
                                            by_cases c74 : (bq73 = true)
                                            · subst c74
                                              have H1 : (turnstilelaw12_FlowDoms.l1 k3 t302 t306 t310 (l0_2.length : Int) x10_2 (rd t310 x11_3) (wrap64 (x12_3 + 1))) = some r := by rw [if_pos rfl] at H; exact H
                                              clear H
                                              have H := H1
                                              clear H1
                                              have H' := Aside0.mk H
                                              clear H
                                              obtain ⟨Ao75, co75, eo75⟩ := Kd.R_slice HO_7.out
                                              subst eo75
                                              have p322 : 0 ≤ (x11_3 : Int) := of_decide_eq_true (by first | (with_reducible assumption) | assumption)
                                              have q322 : x11_3 < (t310.length : Int) := of_decide_eq_true (by first | (with_reducible assumption) | assumption)
                                              obtain ⟨ad322, e322, hx322_0⟩ := Kd.at_int (Kd.R_reads' HO_7.out).2.2 x11_3 p322 q322
                                              cases e322
                                              replace p322 := eq_true p322
                                              replace q322 := eq_true q322
                                              have p323 : 0 ≤ ((rd t310 x11_3) : Int) := of_decide_eq_true (by first | (with_reducible assumption) | assumption)
                                              have q323 : (rd t310 x11_3) < (t302.length : Int) := of_decide_eq_true (by first | (with_reducible assumption) | assumption)
                                              obtain ⟨ad323, e323, hx323_0⟩ := Kd.at_bool (Kd.R_reads' HO_3.out).2.2 (rd t310 x11_3) p323 q323
                                              (try rw [← Nbq54.out] at hx323_0)
                                              (try rw [← Nbq73.out] at hx323_0)
                                              obtain rfl : ad318 = ad323 := (by injection e323)
                                              replace p323 := eq_true p323
                                              replace q323 := eq_true q323
                                              go_wp2
                                              go_roundg k3
                                              case measure => have := HJ14.out; have := HK2.out; have := HK3.out; omega
                                              case rel => exact ⟨(rd t310 x11_3), (wrap64 (x12_3 + 1)), (by first | rfl | (simp; done) | (simp [*]; done)), (by first | rfl | (simp; done) | (simp [*]; done)), H', ⟨by have := HJ14.out; have := HK2.out; have := HK3.out; omega⟩, ⟨by (with_reducible repeat (first | apply Kd.R_alloc | apply Kd.R_drewN | apply Kd.R_drew)); exact HO_3.out⟩, ⟨by (with_reducible repeat (first | apply Kd.S_alloc | apply Kd.S_drewN | apply Kd.S_drew)); exact HO_5.out⟩, ⟨by (with_reducible repeat (first | apply Kd.R_alloc | apply Kd.R_drewN | apply Kd.R_drew)); exact HO_7.out⟩, ⟨by (with_reducible repeat (first | refine blk_drewN ?_ _ | refine blk_drew ?_ | refine blk_alloc ?_ _)); exact BK296.out⟩, ⟨by repeat (first | (with_reducible first | exact HB.out | apply below_alloc | apply pw_below_drewN | apply below_drew1 | refine below_set ?_ GE296.out) | exact HB.out)⟩⟩
                                            · replace c74 := Bool.eq_false_iff.mpr c74
                                              subst c74
                                              have H1 : (some false) = some r := by rw [if_neg (show ¬ (false = true) by decide)] at H; exact H
                                              clear H
                                              have H := H1
                                              clear H1
                                              obtain rfl := Option.some.inj H
                                              obtain ⟨Ao76, co76, eo76⟩ := Kd.R_slice HO_7.out
                                              subst eo76
                                              have p322 : 0 ≤ (x11_3 : Int) := of_decide_eq_true (by first | (with_reducible assumption) | assumption)
                                              have q322 : x11_3 < (t310.length : Int) := of_decide_eq_true (by first | (with_reducible assumption) | assumption)
                                              obtain ⟨ad322, e322, hx322_0⟩ := Kd.at_int (Kd.R_reads' HO_7.out).2.2 x11_3 p322 q322
                                              cases e322
                                              replace p322 := eq_true p322
                                              replace q322 := eq_true q322
                                              have p323 : 0 ≤ ((rd t310 x11_3) : Int) := of_decide_eq_true (by first | (with_reducible assumption) | assumption)
                                              have q323 : (rd t310 x11_3) < (t302.length : Int) := of_decide_eq_true (by first | (with_reducible assumption) | assumption)
                                              obtain ⟨ad323, e323, hx323_0⟩ := Kd.at_bool (Kd.R_reads' HO_3.out).2.2 (rd t310 x11_3) p323 q323
                                              (try rw [← Nbq54.out] at hx323_0)
                                              (try rw [← Nbq73.out] at hx323_0)
                                              obtain rfl : ad318 = ad323 := (by injection e323)
                                              replace p323 := eq_true p323
                                              replace q323 := eq_true q323
                                              go_wp2
                                              go_ret
                                              exact ⟨by first | rfl | (simp [errW_none, errW_some] <;> rfl) | (simp [*, errW_none, errW_some] <;> rfl), by repeat (first | (with_reducible first | exact HB.out | apply below_alloc | apply pw_below_drewN | apply below_drew1 | refine below_set ?_ GE296.out) | exact HB.out)⟩
                                          · rw [if_neg c72] at H
                                            exact absurd H (by simp)
                                        · rw [if_neg c71] at H
                                          exact absurd H (by simp)
                                · rw [if_neg c64] at H
                                  exact absurd H (by simp)
                              · rw [if_neg c63] at H
                                exact absurd H (by simp)
                      · replace c55 := Bool.eq_false_iff.mpr c55
                        subst c55
                        have H1 : (if x10_2 < (t306.length : Int) then (if ((rd_L13 t306 x10_2).length : Int) > 0 then (some false) else (if x10_2 < (t310.length : Int) then (if (rd t310 x10_2) = (-1) then (turnstilelaw12_FlowDoms.l0 k2 t302 t306 t310 (l0_2.length : Int) (wrap64 (x10_2 + 1))) else (some false)) else (none))) else (none)) = some r := by rw [if_neg (show ¬ (false = true) by decide)] at H; exact H
                        clear H
                        have H := H1
                        clear H1
                        by_cases c77 : x10_2 < (t306.length : Int)
                        · rw [if_pos c77] at H
                          have c77b0 : decide (x10_2 < (t306.length : Int)) = true := decide_eq_true c77
                          clear c77
                          by_cases c78 : ((rd_L13 t306 x10_2).length : Int) > 0
                          · rw [if_pos c78] at H
                            have c78b0 : decide (0 < ((rd_L13 t306 x10_2).length : Int)) = true := decide_eq_true c78
                            have c78b1 : decide (0 < (rd_L13 t306 x10_2).length) = true := decide_eq_true (by omega)
                            clear c78
                            obtain rfl := Option.some.inj H
                            obtain ⟨Ao79, co79, eo79⟩ := Kd.R_slice HO_3.out
                            subst eo79
                            have p318 : 0 ≤ (x10_2 : Int) := of_decide_eq_true (by first | (with_reducible assumption) | assumption)
                            have q318 : x10_2 < (t302.length : Int) := of_decide_eq_true (by first | (with_reducible assumption) | assumption)
                            obtain ⟨ad318, e318, hx318_0⟩ := Kd.at_bool (Kd.R_reads' HO_3.out).2.2 x10_2 p318 q318
                            (try rw [← Nbq54.out] at hx318_0)
                            cases e318
                            replace p318 := eq_true p318
                            replace q318 := eq_true q318
                            obtain ⟨Ao80, co80, eo80⟩ := Kd.S_slice HO_5.out
                            subst eo80
                            have p319 : 0 ≤ (x10_2 : Int) := of_decide_eq_true (by first | (with_reducible assumption) | assumption)
                            have q319 : x10_2 < (t306.length : Int) := of_decide_eq_true (by first | (with_reducible assumption) | assumption)
                            obtain ⟨ad319, A319_0, c319_0, e319, hx319_0, hl319_0, hi319_0⟩ := at_L13 (Kd.S_reads' HO_5.out).2.2 x10_2 p319 q319
                            cases e319
                            obtain ⟨ce319, hce319, hMe319, hcc319⟩ := Kd.S_get HO_5.out [] x10_2 p319 (by first | exact q319 | exact of_decide_eq_true (by first | (with_reducible assumption) | assumption) | (have e_ := (Kd.S_reads' HO_5.out).1; omega))
                            obtain ⟨ve319_0, rfl, ge319_0⟩ := hMe319
                            have hv319_0 := hcc319 0 _ rfl
                            rw [Nat.add_zero, show ((Kd.slice 3 (Kd.int .i64))).sz = 1 from rfl, Nat.mul_one] at hv319_0
                            replace hv319_0 := Option.some.inj (hv319_0.symm.trans hx319_0)
                            rw [hv319_0] at ge319_0
                            have HL319_0 := Aside0.mk (show Kd.R (Kd.int .i64) 3 _ _ _ _ (rd_L13 t306 x10_2) from ge319_0)
                            clear hv319_0 ge319_0
                            clear hcc319 hce319
                            have HR319_0 := Aside0.mk hi319_0
                            have HC319_0 := Aside0.mk hl319_0
                            clear hi319_0 hl319_0
                            replace p319 := eq_true p319
                            replace q319 := eq_true q319
                            go_wp2
                            go_ret
                            exact ⟨by first | rfl | (simp [errW_none, errW_some] <;> rfl) | (simp [*, errW_none, errW_some] <;> rfl), by repeat (first | (with_reducible first | exact HB.out | apply below_alloc | apply pw_below_drewN | apply below_drew1 | refine below_set ?_ GE296.out) | exact HB.out)⟩
                          · rw [if_neg c78] at H
                            have c78b0 : decide (0 < ((rd_L13 t306 x10_2).length : Int)) = false := decide_eq_false c78
                            have c78b1 : decide (0 < (rd_L13 t306 x10_2).length) = false := decide_eq_false (by omega)
                            clear c78
                            by_cases c81 : x10_2 < (t310.length : Int)
                            · rw [if_pos c81] at H
                              have c81b0 : decide (x10_2 < (t310.length : Int)) = true := decide_eq_true c81
                              clear c81
                              by_cases c82 : (rd t310 x10_2) = (-1)
                              · rw [if_pos c82] at H
                                have c82b0 : ((rd t310 x10_2) == (-1)) = true := beq_iff_eq.mpr c82
                                have c82b1 : ((rd t310 x10_2) != (-1)) = false := bne_eq_false_iff_eq.mpr c82
                                clear c82
                                have H' := Aside0.mk H
                                clear H
                                obtain ⟨Ao83, co83, eo83⟩ := Kd.R_slice HO_3.out
                                subst eo83
                                have p318 : 0 ≤ (x10_2 : Int) := of_decide_eq_true (by first | (with_reducible assumption) | assumption)
                                have q318 : x10_2 < (t302.length : Int) := of_decide_eq_true (by first | (with_reducible assumption) | assumption)
                                obtain ⟨ad318, e318, hx318_0⟩ := Kd.at_bool (Kd.R_reads' HO_3.out).2.2 x10_2 p318 q318
                                (try rw [← Nbq54.out] at hx318_0)
                                cases e318
                                replace p318 := eq_true p318
                                replace q318 := eq_true q318
                                obtain ⟨Ao84, co84, eo84⟩ := Kd.S_slice HO_5.out
                                subst eo84
                                have p319 : 0 ≤ (x10_2 : Int) := of_decide_eq_true (by first | (with_reducible assumption) | assumption)
                                have q319 : x10_2 < (t306.length : Int) := of_decide_eq_true (by first | (with_reducible assumption) | assumption)
                                obtain ⟨ad319, A319_0, c319_0, e319, hx319_0, hl319_0, hi319_0⟩ := at_L13 (Kd.S_reads' HO_5.out).2.2 x10_2 p319 q319
                                cases e319
                                obtain ⟨ce319, hce319, hMe319, hcc319⟩ := Kd.S_get HO_5.out [] x10_2 p319 (by first | exact q319 | exact of_decide_eq_true (by first | (with_reducible assumption) | assumption) | (have e_ := (Kd.S_reads' HO_5.out).1; omega))
                                obtain ⟨ve319_0, rfl, ge319_0⟩ := hMe319
                                have hv319_0 := hcc319 0 _ rfl
                                rw [Nat.add_zero, show ((Kd.slice 3 (Kd.int .i64))).sz = 1 from rfl, Nat.mul_one] at hv319_0
                                replace hv319_0 := Option.some.inj (hv319_0.symm.trans hx319_0)
                                rw [hv319_0] at ge319_0
                                have HL319_0 := Aside0.mk (show Kd.R (Kd.int .i64) 3 _ _ _ _ (rd_L13 t306 x10_2) from ge319_0)
                                clear hv319_0 ge319_0
                                clear hcc319 hce319
                                have HR319_0 := Aside0.mk hi319_0
                                have HC319_0 := Aside0.mk hl319_0
                                clear hi319_0 hl319_0
                                replace p319 := eq_true p319
                                replace q319 := eq_true q319
                                obtain ⟨Ao85, co85, eo85⟩ := Kd.R_slice HO_7.out
                                subst eo85
                                have p320 : 0 ≤ (x10_2 : Int) := of_decide_eq_true (by first | (with_reducible assumption) | assumption)
                                have q320 : x10_2 < (t310.length : Int) := of_decide_eq_true (by first | (with_reducible assumption) | assumption)
                                obtain ⟨ad320, e320, hx320_0⟩ := Kd.at_int (Kd.R_reads' HO_7.out).2.2 x10_2 p320 q320
                                cases e320
                                replace p320 := eq_true p320
                                replace q320 := eq_true q320
                                go_wp2
                                go_roundg k2
                                case measure => have := HJ14.out; have := HK2.out; omega
                                case rel => exact ⟨(wrap64 (x10_2 + 1)), (by first | rfl | (simp; done) | (simp [*]; done)), H', ⟨by have := HJ14.out; have := HK2.out; omega⟩, ⟨by (with_reducible repeat (first | apply Kd.R_alloc | apply Kd.R_drewN | apply Kd.R_drew)); exact HO_3.out⟩, ⟨by (with_reducible repeat (first | apply Kd.S_alloc | apply Kd.S_drewN | apply Kd.S_drew)); exact HO_5.out⟩, ⟨by (with_reducible repeat (first | apply Kd.R_alloc | apply Kd.R_drewN | apply Kd.R_drew)); exact HO_7.out⟩, ⟨by (with_reducible repeat (first | refine blk_drewN ?_ _ | refine blk_drew ?_ | refine blk_alloc ?_ _)); exact BK296.out⟩, ⟨by repeat (first | (with_reducible first | exact HB.out | apply below_alloc | apply pw_below_drewN | apply below_drew1 | refine below_set ?_ GE296.out) | exact HB.out)⟩⟩
                              · rw [if_neg c82] at H
                                have c82b0 : ((rd t310 x10_2) == (-1)) = false := beq_eq_false_iff_ne.mpr c82
                                have c82b1 : ((rd t310 x10_2) != (-1)) = true := bne_iff_ne.mpr c82
                                obtain rfl := Option.some.inj H
                                obtain ⟨Ao86, co86, eo86⟩ := Kd.R_slice HO_3.out
                                subst eo86
                                have p318 : 0 ≤ (x10_2 : Int) := of_decide_eq_true (by first | (with_reducible assumption) | assumption)
                                have q318 : x10_2 < (t302.length : Int) := of_decide_eq_true (by first | (with_reducible assumption) | assumption)
                                obtain ⟨ad318, e318, hx318_0⟩ := Kd.at_bool (Kd.R_reads' HO_3.out).2.2 x10_2 p318 q318
                                (try rw [← Nbq54.out] at hx318_0)
                                cases e318
                                replace p318 := eq_true p318
                                replace q318 := eq_true q318
                                obtain ⟨Ao87, co87, eo87⟩ := Kd.S_slice HO_5.out
                                subst eo87
                                have p319 : 0 ≤ (x10_2 : Int) := of_decide_eq_true (by first | (with_reducible assumption) | assumption)
                                have q319 : x10_2 < (t306.length : Int) := of_decide_eq_true (by first | (with_reducible assumption) | assumption)
                                obtain ⟨ad319, A319_0, c319_0, e319, hx319_0, hl319_0, hi319_0⟩ := at_L13 (Kd.S_reads' HO_5.out).2.2 x10_2 p319 q319
                                cases e319
                                obtain ⟨ce319, hce319, hMe319, hcc319⟩ := Kd.S_get HO_5.out [] x10_2 p319 (by first | exact q319 | exact of_decide_eq_true (by first | (with_reducible assumption) | assumption) | (have e_ := (Kd.S_reads' HO_5.out).1; omega))
                                obtain ⟨ve319_0, rfl, ge319_0⟩ := hMe319
                                have hv319_0 := hcc319 0 _ rfl
                                rw [Nat.add_zero, show ((Kd.slice 3 (Kd.int .i64))).sz = 1 from rfl, Nat.mul_one] at hv319_0
                                replace hv319_0 := Option.some.inj (hv319_0.symm.trans hx319_0)
                                rw [hv319_0] at ge319_0
                                have HL319_0 := Aside0.mk (show Kd.R (Kd.int .i64) 3 _ _ _ _ (rd_L13 t306 x10_2) from ge319_0)
                                clear hv319_0 ge319_0
                                clear hcc319 hce319
                                have HR319_0 := Aside0.mk hi319_0
                                have HC319_0 := Aside0.mk hl319_0
                                clear hi319_0 hl319_0
                                replace p319 := eq_true p319
                                replace q319 := eq_true q319
                                obtain ⟨Ao88, co88, eo88⟩ := Kd.R_slice HO_7.out
                                subst eo88
                                have p320 : 0 ≤ (x10_2 : Int) := of_decide_eq_true (by first | (with_reducible assumption) | assumption)
                                have q320 : x10_2 < (t310.length : Int) := of_decide_eq_true (by first | (with_reducible assumption) | assumption)
                                obtain ⟨ad320, e320, hx320_0⟩ := Kd.at_int (Kd.R_reads' HO_7.out).2.2 x10_2 p320 q320
                                cases e320
                                replace p320 := eq_true p320
                                replace q320 := eq_true q320
                                go_wp2
                                go_ret
                                exact ⟨by first | rfl | (simp [errW_none, errW_some] <;> rfl) | (simp [*, errW_none, errW_some] <;> rfl), by repeat (first | (with_reducible first | exact HB.out | apply below_alloc | apply pw_below_drewN | apply below_drew1 | refine below_set ?_ GE296.out) | exact HB.out)⟩
                            · rw [if_neg c81] at H
                              exact absurd H (by simp)
                        · rw [if_neg c77] at H
                          exact absurd H (by simp)
                    · rw [if_neg c53] at H
                      exact absurd H (by simp)
                  · rw [if_neg c52] at H
                    exact absurd H (by simp)
                · rw [if_neg c51] at H
                  have c51b0 : decide (x10_2 < (l0_2.length : Int)) = false := decide_eq_false c51
                  clear c51
                  replace H := Option.bind_eq_some_iff.mp H
                  obtain ⟨t317, A890, H⟩ := H
                  replace H : (some t317) = some r := H
                  have A89 := Aside0.mk A890
                  clear A890
                  obtain rfl := Option.some.inj H
                  go_wp2_with (first | ((with_reducible refine gate_callee (f := 52) rfl ?_); refine goesL_ (some 152) rfl rfl Try.func52 (by kernel_rfl) rfl #[] rfl (by (try simp only [List.map_toArray, List.map_cons, List.map_nil]); first | done | rfl | (simp only [List.length_drop, List.length_take]; rfl)) ?_; (with_reducible refine (turnstilelaw12_alive.calls k2  t317 _ A89.out).mono ?_); rintro e w90 ⟨rfl, hb⟩; refine ⟨_, rfl, ?_⟩; have n0_ := Aside0.mk (Kd.R_below (by (with_reducible repeat (first | apply Kd.R_alloc | apply Kd.R_drewN | apply Kd.R_drew)); exact HO_3.out) hb); have n1_ := Aside0.mk (Kd.S_below (by (with_reducible repeat (first | apply Kd.S_alloc | apply Kd.S_drewN | apply Kd.S_drew)); exact HO_5.out) hb); have n2_ := Aside0.mk (Kd.R_below (by (with_reducible repeat (first | apply Kd.R_alloc | apply Kd.R_drewN | apply Kd.R_drew)); exact HO_7.out) hb); have n3_ := Aside0.mk (blk_below (g := gb296) (o := .cells #[.slice A0_0 l0_0.length c0_0, .int .i64 a0_1, .slice A0_2 l0_2.length c0_2] 25 (0, 0)) (by (with_reducible repeat (first | refine blk_drewN ?_ _ | refine blk_drew ?_ | refine blk_alloc ?_ _)); exact BK296.out) hb); have n4_ := Aside0.mk (below_step (by repeat (first | (with_reducible first | exact HB.out | apply below_alloc | apply pw_below_drewN | apply below_drew1 | refine below_set ?_ GE296.out) | exact HB.out)) hb); clear HO_3; clear HO_5; clear HO_7; clear BK296; clear HB; have HO_3 := n0_; have HO_5 := n1_; have HO_7 := n2_; have BK296 := n3_; have HB := n4_; clear n0_ n1_ n2_ n3_ n4_; (try clear hb); (try clear hb2); (try clear hk); (try clear hi)))
                  go_ret
                  exact ⟨by first | rfl | (simp [errW_none, errW_some] <;> rfl) | (simp [*, errW_none, errW_some] <;> rfl), by repeat (first | (with_reducible first | exact HB.out | apply below_alloc | apply pw_below_drewN | apply below_drew1 | refine below_set ?_ GE296.out) | exact HB.out)⟩
    · rw [if_neg c14] at H
      have c14b0 : (t305 == 0) = false := beq_eq_false_iff_ne.mpr c14
      have c14b1 : (t305 != 0) = true := bne_iff_ne.mpr c14
      by_cases c91 : t309 = t305
      · rw [if_pos c91] at H
        have c91b0 : (t309 == t305) = true := beq_iff_eq.mpr c91
        have c91b1 : (t309 != t305) = false := bne_eq_false_iff_eq.mpr c91
        clear c91
        by_cases c92 : t313 = t305
        · rw [if_pos c92] at H
          have c92b0 : (t313 == t305) = true := beq_iff_eq.mpr c92
          have c92b1 : (t313 != t305) = false := bne_eq_false_iff_eq.mpr c92
          clear c92
          by_cases c93 : (wrap64 ((wrap64 ((t302.length : Int) + (t306.length : Int))) + (t310.length : Int))) = 0
          · rw [if_pos c93] at H
            have c93b0 : ((wrap64 ((wrap64 ((t302.length : Int) + (t306.length : Int))) + (t310.length : Int))) == 0) = true := beq_iff_eq.mpr c93
            have c93b1 : ((wrap64 ((wrap64 ((t302.length : Int) + (t306.length : Int))) + (t310.length : Int))) != 0) = false := bne_eq_false_iff_eq.mpr c93
            clear c93
            replace H := Option.bind_eq_some_iff.mp H
            obtain ⟨t314, A940, H⟩ := H
            replace H : (some t314) = some r := H
            have A94 := Aside0.mk A940
            clear A940
            obtain rfl := Option.some.inj H
            go_enter Try.func11, Try.ntmps11
            go_wp2_with (first | ((with_reducible refine gate_dst (N := 1) rfl ?_); (try (refine gate_guard (by rfl) ?_; dsimp only)); refine box_event ?hg (N := 1) ?hd (cs := #[.slice A0_0 l0_0.length c0_0, .int .i64 a0_1, .slice A0_2 l0_2.length c0_2]) (t := 25) ?hr ?_; (case hd => rfl); (case hg => rfl); (case hr => first | (go_simp; done) | (go_simp; rfl)); intro gb296 hg w95 hbox hb; have n0_ := Aside0.mk (below_step (by repeat (first | (with_reducible first | exact HB.out | apply below_alloc | apply pw_below_drewN | apply below_drew1) | exact HB.out)) hb); have n1_ := Aside0.mk (hbox); have n2_ := Aside0.mk ((by rw [hg]; exact (below_size (by repeat (first | (with_reducible first | exact HB.out | apply below_alloc | apply pw_below_drewN | apply below_drew1) | exact HB.out))) : w.heap.size ≤ gb296)); have n3_ := Aside0.mk ((by rw [hg]; exact (below_size (by repeat (first | (with_reducible first | exact HB.out | apply below_alloc | apply pw_below_drewN | apply below_drew1) | exact HB.out))) : w.heap.size ≤ gb296)); clear HB; have HB := n0_; have BK296 := n1_; have GW296 := n2_; have GE296 := n3_; clear n0_ n1_ n2_ n3_; clear hb hbox hg; have hcz96_0 : w95.cell? ⟨gb296, 0, none⟩ = some (.slice A0_0 l0_0.length c0_0) := (blk_cell BK296.out 0).trans rfl; have hcz96_1 : w95.cell? ⟨gb296, 1, none⟩ = some (.int .i64 a0_1) := (blk_cell BK296.out 1).trans rfl; have hcz96_2 : w95.cell? ⟨gb296, 2, none⟩ = some (.slice A0_2 l0_2.length c0_2) := (blk_cell BK296.out 2).trans rfl; have hfz96_0 := blk_frozen BK296.out 0; have hfz96_1 := blk_frozen BK296.out 1; have hfz96_2 := blk_frozen BK296.out 2) | ((with_reducible refine gate_callee (f := 14) rfl ?_); refine goesL_ (some 14) rfl rfl Try.func14 (by kernel_rfl) rfl #[.agg #[.slice A0_0 l0_0.length c0_0, .int .i64 a0_1, .slice A0_2 l0_2.length c0_2]] rfl (by (try simp only [List.map_toArray, List.map_cons, List.map_nil]); first | done | rfl | (simp only [List.length_drop, List.length_take]; rfl)) ?_; (with_reducible refine (turnstilelaw01_GraphSize.calls k _ _ l0_0 a0_1 _ _ l0_2 t297 _ ?side1 ?side2 ?side3 ?side4 A2.out).mono ?_); (case side1 => repeat (first | exact (Kd.C_below HR0_0.out HB.out) | (with_reducible refine Kd.C_alloc ?_ _) | (with_reducible refine Kd.C_drewN ?_ _) | (with_reducible refine Kd.C_drew ?_))); (case side2 => exact HC0_0.out); (case side3 => repeat (first | exact (Kd.C_below HR0_2.out HB.out) | (with_reducible refine Kd.C_alloc ?_ _) | (with_reducible refine Kd.C_drewN ?_ _) | (with_reducible refine Kd.C_drew ?_))); (case side4 => exact HC0_2.out); rintro e w97 ⟨rfl, hb⟩; refine ⟨_, rfl, ?_⟩; have n0_ := Aside0.mk (blk_below (g := gb296) (o := .cells #[.slice A0_0 l0_0.length c0_0, .int .i64 a0_1, .slice A0_2 l0_2.length c0_2] 25 (0, 0)) (by (with_reducible repeat (first | refine blk_drewN ?_ _ | refine blk_drew ?_ | refine blk_alloc ?_ _)); exact BK296.out) hb); have n1_ := Aside0.mk (below_step (by repeat (first | (with_reducible first | exact HB.out | apply below_alloc | apply pw_below_drewN | apply below_drew1 | refine below_set ?_ GE296.out) | exact HB.out)) hb); clear BK296; clear HB; have BK296 := n0_; have HB := n1_; clear n0_ n1_; (try clear hb); (try clear hb2); (try clear hk); (try clear hi)) | ((with_reducible refine gate_dst (N := 15) rfl ?_); (try (refine gate_guard (by rfl) ?_; dsimp only)); refine Kd.R_lit (Kd.int .i64) _ 3 ?hg (N := 15) ?hd (xs := ([t297] : List Int)) (inner := [.int .i64 t297]) (ok := fun _ => True) (okp := fun _ => True) ?hr ?hp (fun _ hk => hk) trivial (Below.refl _ _) (Nat.le_refl _) (by simp) ?_; (case hd => rfl); (case hg => rfl); (case hr => first | (go_simp; done) | (go_simp; rfl)); (case hp => exact (Reps.one (show Kd.M (Kd.int .i64) _ _ _ t297 [.int .i64 t297] from rfl) (Reps.none _ _))); intro v299 w98 ho99 hb hg_ hnew_; clear hg_ hnew_; (first | rw [← Ny298.out] at ho99 | (simp only [Int.reduceToNat] at ho99; rw [← Ny298.out] at ho99)); have n0_ := Aside0.mk (Kd.R_lower ho99 (below_size (by repeat (first | (with_reducible first | exact HB.out | apply below_alloc | apply pw_below_drewN | apply below_drew1 | refine below_set ?_ GE296.out) | exact HB.out)))); have n1_ := Aside0.mk (blk_below (g := gb296) (o := .cells #[.slice A0_0 l0_0.length c0_0, .int .i64 a0_1, .slice A0_2 l0_2.length c0_2] 25 (0, 0)) (by (with_reducible repeat (first | refine blk_drewN ?_ _ | refine blk_drew ?_ | refine blk_alloc ?_ _)); exact BK296.out) hb); have n2_ := Aside0.mk (below_step (by repeat (first | (with_reducible first | exact HB.out | apply below_alloc | apply pw_below_drewN | apply below_drew1 | refine below_set ?_ GE296.out) | exact HB.out)) hb); clear BK296; clear HB; have HO300 := n0_; have BK296 := n1_; have HB := n2_; clear n0_ n1_ n2_; clear hb ho99; obtain ⟨Ao100, co100, eo100⟩ := Kd.R_slice HO300.out; subst eo100) | ((with_reducible refine gate_callee (f := 13) rfl ?_); refine goesL_ (some 16) rfl rfl Try.func13 (by kernel_rfl) rfl #[.slice Ao100 y298.length co100] rfl (by (try simp only [List.map_toArray, List.map_cons, List.map_nil]); first | done | rfl | (simp only [List.length_drop, List.length_take]; rfl)) ?_; (with_reducible refine (turnstilelaw01_Beyond.calls k _ _ y298 false _ ?side1 ?side2 A3.out).mono ?_); (case side1 => repeat (first | exact (Kd.R_reads' HO300.out).2.2 | (with_reducible refine Kd.C_alloc ?_ _) | (with_reducible refine Kd.C_drewN ?_ _) | (with_reducible refine Kd.C_drew ?_))); (case side2 => exact (Kd.R_reads' HO300.out).2.1); rintro e w' ⟨rfl, ⟨nd, rfl⟩⟩; refine ⟨_, rfl, ?_⟩; have hcz101_0 : w98.cell? ⟨gb296, 0, none⟩ = some (.slice A0_0 l0_0.length c0_0) := (blk_cell BK296.out 0).trans rfl; have hcz101_1 : w98.cell? ⟨gb296, 1, none⟩ = some (.int .i64 a0_1) := (blk_cell BK296.out 1).trans rfl; have hcz101_2 : w98.cell? ⟨gb296, 2, none⟩ = some (.slice A0_2 l0_2.length c0_2) := (blk_cell BK296.out 2).trans rfl; have hfz101_0 := blk_frozen BK296.out 0; have hfz101_1 := blk_frozen BK296.out 1; have hfz101_2 := blk_frozen BK296.out 2) | ((with_reducible refine gate_callee (f := 49) rfl ?_); refine goesL_ (some 19) rfl rfl Try.func49 (by kernel_rfl) rfl #[.agg #[.slice A0_0 l0_0.length c0_0, .int .i64 a0_1, .slice A0_2 l0_2.length c0_2]] rfl (by (try simp only [List.map_toArray, List.map_cons, List.map_nil]); first | done | rfl | (simp only [List.length_drop, List.length_take]; rfl)) ?_; (with_reducible refine (flow_Reach.calls k _ _ l0_0 a0_1 _ _ l0_2 t302 t305 _ ?side1 ?side2 ?side3 ?side4 A11.out).mono ?_); (case side1 => repeat (first | exact (Kd.C_below HR0_0.out (by repeat (first | (with_reducible first | exact HB.out | apply below_alloc | apply pw_below_drewN | apply below_drew1 | refine below_set ?_ GE296.out) | exact HB.out))) | (with_reducible refine Kd.C_alloc ?_ _) | (with_reducible refine Kd.C_drewN ?_ _) | (with_reducible refine Kd.C_drew ?_))); (case side2 => exact HC0_0.out); (case side3 => repeat (first | exact (Kd.C_below HR0_2.out (by repeat (first | (with_reducible first | exact HB.out | apply below_alloc | apply pw_below_drewN | apply below_drew1 | refine below_set ?_ GE296.out) | exact HB.out))) | (with_reducible refine Kd.C_alloc ?_ _) | (with_reducible refine Kd.C_drewN ?_ _) | (with_reducible refine Kd.C_drew ?_))); (case side4 => exact HC0_2.out); rintro e w102 ⟨v303, rfl, ho0, hb⟩; refine ⟨_, rfl, ?_⟩; have n0_ := Aside0.mk (Kd.R_below (by (with_reducible repeat (first | apply Kd.R_alloc | apply Kd.R_drewN | apply Kd.R_drew)); exact HO300.out) hb); have n1_ := Aside0.mk (Kd.R_lower ho0 (below_size (by repeat (first | (with_reducible first | exact HB.out | apply below_alloc | apply pw_below_drewN | apply below_drew1 | refine below_set ?_ GE296.out) | exact HB.out)))); have n2_ := Aside0.mk (blk_below (g := gb296) (o := .cells #[.slice A0_0 l0_0.length c0_0, .int .i64 a0_1, .slice A0_2 l0_2.length c0_2] 25 (0, 0)) (by (with_reducible repeat (first | refine blk_drewN ?_ _ | refine blk_drew ?_ | refine blk_alloc ?_ _)); exact BK296.out) hb); have n3_ := Aside0.mk (below_step (by repeat (first | (with_reducible first | exact HB.out | apply below_alloc | apply pw_below_drewN | apply below_drew1 | refine below_set ?_ GE296.out) | exact HB.out)) hb); clear HO300; clear BK296; clear HB; have HO300 := n0_; have HO304 := n1_; have BK296 := n2_; have HB := n3_; clear n0_ n1_ n2_ n3_; (try clear hb); (try clear hb2); (try clear hk); (try clear hi); (try clear ho0); have hcz103_0 : w102.cell? ⟨gb296, 0, none⟩ = some (.slice A0_0 l0_0.length c0_0) := (blk_cell BK296.out 0).trans rfl; have hcz103_1 : w102.cell? ⟨gb296, 1, none⟩ = some (.int .i64 a0_1) := (blk_cell BK296.out 1).trans rfl; have hcz103_2 : w102.cell? ⟨gb296, 2, none⟩ = some (.slice A0_2 l0_2.length c0_2) := (blk_cell BK296.out 2).trans rfl; have hfz103_0 := blk_frozen BK296.out 0; have hfz103_1 := blk_frozen BK296.out 1; have hfz103_2 := blk_frozen BK296.out 2) | ((with_reducible refine gate_callee (f := 50) rfl ?_); refine goesL_ (some 24) rfl rfl Try.func50 (by kernel_rfl) rfl #[.agg #[.slice A0_0 l0_0.length c0_0, .int .i64 a0_1, .slice A0_2 l0_2.length c0_2]] rfl (by (try simp only [List.map_toArray, List.map_cons, List.map_nil]); first | done | rfl | (simp only [List.length_drop, List.length_take]; rfl)) ?_; (with_reducible refine (flow_Ahead.calls _ _ l0_0 a0_1 _ _ l0_2 t306 t309 _ ?side1 ?side2 ?side3 ?side4 A12.out).mono ?_); (case side1 => repeat (first | exact (Kd.C_below HR0_0.out HB.out) | (with_reducible refine Kd.C_alloc ?_ _) | (with_reducible refine Kd.C_drewN ?_ _) | (with_reducible refine Kd.C_drew ?_))); (case side2 => exact HC0_0.out); (case side3 => repeat (first | exact (Kd.C_below HR0_2.out HB.out) | (with_reducible refine Kd.C_alloc ?_ _) | (with_reducible refine Kd.C_drewN ?_ _) | (with_reducible refine Kd.C_drew ?_))); (case side4 => exact HC0_2.out); rintro e w104 ⟨v307, rfl, ho0, hb⟩; refine ⟨_, rfl, ?_⟩; have n0_ := Aside0.mk (Kd.R_below (by (with_reducible repeat (first | apply Kd.R_alloc | apply Kd.R_drewN | apply Kd.R_drew)); exact HO300.out) hb); have n1_ := Aside0.mk (Kd.R_below (by (with_reducible repeat (first | apply Kd.R_alloc | apply Kd.R_drewN | apply Kd.R_drew)); exact HO304.out) hb); have n2_ := Aside0.mk (Kd.S_lower (Kd.S_new' ho0 (Kd.R_lt (by (with_reducible repeat (first | apply Kd.R_alloc | apply Kd.R_drewN | apply Kd.R_drew)); exact HO300.out))) (below_size (by repeat (first | (with_reducible first | exact HB.out | apply below_alloc | apply pw_below_drewN | apply below_drew1 | refine below_set ?_ GE296.out) | exact HB.out)))); have n3_ := Aside0.mk (blk_below (g := gb296) (o := .cells #[.slice A0_0 l0_0.length c0_0, .int .i64 a0_1, .slice A0_2 l0_2.length c0_2] 25 (0, 0)) (by (with_reducible repeat (first | refine blk_drewN ?_ _ | refine blk_drew ?_ | refine blk_alloc ?_ _)); exact BK296.out) hb); have n4_ := Aside0.mk (below_step (by repeat (first | (with_reducible first | exact HB.out | apply below_alloc | apply pw_below_drewN | apply below_drew1 | refine below_set ?_ GE296.out) | exact HB.out)) hb); clear HO300; clear HO304; clear BK296; clear HB; have HO300 := n0_; have HO304 := n1_; have HO308 := n2_; have BK296 := n3_; have HB := n4_; clear n0_ n1_ n2_ n3_ n4_; (try clear hb); (try clear hb2); (try clear hk); (try clear hi); (try clear ho0); have hcz105_0 : w104.cell? ⟨gb296, 0, none⟩ = some (.slice A0_0 l0_0.length c0_0) := (blk_cell BK296.out 0).trans rfl; have hcz105_1 : w104.cell? ⟨gb296, 1, none⟩ = some (.int .i64 a0_1) := (blk_cell BK296.out 1).trans rfl; have hcz105_2 : w104.cell? ⟨gb296, 2, none⟩ = some (.slice A0_2 l0_2.length c0_2) := (blk_cell BK296.out 2).trans rfl; have hfz105_0 := blk_frozen BK296.out 0; have hfz105_1 := blk_frozen BK296.out 1; have hfz105_2 := blk_frozen BK296.out 2) | ((with_reducible refine gate_callee (f := 51) rfl ?_); refine goesL_ (some 29) rfl rfl Try.func51 (by kernel_rfl) rfl #[.agg #[.slice A0_0 l0_0.length c0_0, .int .i64 a0_1, .slice A0_2 l0_2.length c0_2]] rfl (by (try simp only [List.map_toArray, List.map_cons, List.map_nil]); first | done | rfl | (simp only [List.length_drop, List.length_take]; rfl)) ?_; (with_reducible refine (flow_Dom.calls _ _ l0_0 a0_1 _ _ l0_2 t310 t313 _ ?side1 ?side2 ?side3 ?side4 A13.out).mono ?_); (case side1 => repeat (first | exact (Kd.C_below HR0_0.out HB.out) | (with_reducible refine Kd.C_alloc ?_ _) | (with_reducible refine Kd.C_drewN ?_ _) | (with_reducible refine Kd.C_drew ?_))); (case side2 => exact HC0_0.out); (case side3 => repeat (first | exact (Kd.C_below HR0_2.out HB.out) | (with_reducible refine Kd.C_alloc ?_ _) | (with_reducible refine Kd.C_drewN ?_ _) | (with_reducible refine Kd.C_drew ?_))); (case side4 => exact HC0_2.out); rintro e w106 ⟨v311, rfl, ho0, hb⟩; refine ⟨_, rfl, ?_⟩; have n0_ := Aside0.mk (Kd.R_elder' (by (with_reducible repeat (first | apply Kd.R_alloc | apply Kd.R_drewN | apply Kd.R_drew)); exact HO300.out) (Kd.R_base ho0) hb); have n1_ := Aside0.mk (Kd.R_below (by (with_reducible repeat (first | apply Kd.R_alloc | apply Kd.R_drewN | apply Kd.R_drew)); exact HO304.out) hb); have n2_ := Aside0.mk (Kd.S_elder' (by (with_reducible repeat (first | apply Kd.S_alloc | apply Kd.S_drewN | apply Kd.S_drew)); exact HO308.out) (Kd.R_base ho0) hb); have n3_ := Aside0.mk (Kd.R_lower (Kd.R_new' ho0 (Kd.R_lt (by (with_reducible repeat (first | apply Kd.R_alloc | apply Kd.R_drewN | apply Kd.R_drew)); exact HO300.out))) (below_size (by repeat (first | (with_reducible first | exact HB.out | apply below_alloc | apply pw_below_drewN | apply below_drew1 | refine below_set ?_ GE296.out) | exact HB.out)))); have n4_ := Aside0.mk (blk_below (g := gb296) (o := .cells #[.slice A0_0 l0_0.length c0_0, .int .i64 a0_1, .slice A0_2 l0_2.length c0_2] 25 (0, 0)) (by (with_reducible repeat (first | refine blk_drewN ?_ _ | refine blk_drew ?_ | refine blk_alloc ?_ _)); exact BK296.out) hb); have n5_ := Aside0.mk (below_step (by repeat (first | (with_reducible first | exact HB.out | apply below_alloc | apply pw_below_drewN | apply below_drew1 | refine below_set ?_ GE296.out) | exact HB.out)) hb); clear HO300; clear HO304; clear HO308; clear BK296; clear HB; have HO300 := n0_; have HO304 := n1_; have HO308 := n2_; have HO312 := n3_; have BK296 := n4_; have HB := n5_; clear n0_ n1_ n2_ n3_ n4_ n5_; (try clear hb); (try clear hb2); (try clear hk); (try clear hi); (try clear ho0); obtain ⟨Ao107, co107, eo107⟩ := Kd.R_slice HO304.out; subst eo107; obtain ⟨Ao108, co108, eo108⟩ := Kd.S_slice HO308.out; subst eo108; obtain ⟨Ao109, co109, eo109⟩ := Kd.R_slice HO312.out; subst eo109) | (go_at_call 52; (with_reducible refine (turnstilelaw12_alive.calls k  t314 _ A94.out).mono ?_); rintro e w110 ⟨rfl, hb⟩; have n0_ := Aside0.mk (Kd.R_below (by (with_reducible repeat (first | apply Kd.R_alloc | apply Kd.R_drewN | apply Kd.R_drew)); exact HO300.out) hb); have n1_ := Aside0.mk (Kd.R_below (by (with_reducible repeat (first | apply Kd.R_alloc | apply Kd.R_drewN | apply Kd.R_drew)); exact HO304.out) hb); have n2_ := Aside0.mk (Kd.S_below (by (with_reducible repeat (first | apply Kd.S_alloc | apply Kd.S_drewN | apply Kd.S_drew)); exact HO308.out) hb); have n3_ := Aside0.mk (Kd.R_below (by (with_reducible repeat (first | apply Kd.R_alloc | apply Kd.R_drewN | apply Kd.R_drew)); exact HO312.out) hb); have n4_ := Aside0.mk (blk_below (g := gb296) (o := .cells #[.slice A0_0 l0_0.length c0_0, .int .i64 a0_1, .slice A0_2 l0_2.length c0_2] 25 (0, 0)) (by (with_reducible repeat (first | refine blk_drewN ?_ _ | refine blk_drew ?_ | refine blk_alloc ?_ _)); exact BK296.out) hb); have n5_ := Aside0.mk (below_step (by repeat (first | (with_reducible first | exact HB.out | apply below_alloc | apply pw_below_drewN | apply below_drew1 | refine below_set ?_ GE296.out) | exact HB.out)) hb); clear HO300; clear HO304; clear HO308; clear HO312; clear BK296; clear HB; have HO300 := n0_; have HO304 := n1_; have HO308 := n2_; have HO312 := n3_; have BK296 := n4_; have HB := n5_; clear n0_ n1_ n2_ n3_ n4_ n5_; (try clear hb); (try clear hb2); (try clear hk); (try clear hi)))
            go_ret
            exact ⟨by first | rfl | (simp [errW_none, errW_some] <;> rfl) | (simp [*, errW_none, errW_some] <;> rfl), by repeat (first | (with_reducible first | exact HB.out | apply below_alloc | apply pw_below_drewN | apply below_drew1 | refine below_set ?_ GE296.out) | exact HB.out)⟩
          · rw [if_neg c93] at H
            have c93b0 : ((wrap64 ((wrap64 ((t302.length : Int) + (t306.length : Int))) + (t310.length : Int))) == 0) = false := beq_eq_false_iff_ne.mpr c93
            have c93b1 : ((wrap64 ((wrap64 ((t302.length : Int) + (t306.length : Int))) + (t310.length : Int))) != 0) = true := bne_iff_ne.mpr c93
            obtain rfl := Option.some.inj H
            go_enter Try.func11, Try.ntmps11
            go_wp2_with (first | ((with_reducible refine gate_dst (N := 1) rfl ?_); (try (refine gate_guard (by rfl) ?_; dsimp only)); refine box_event ?hg (N := 1) ?hd (cs := #[.slice A0_0 l0_0.length c0_0, .int .i64 a0_1, .slice A0_2 l0_2.length c0_2]) (t := 25) ?hr ?_; (case hd => rfl); (case hg => rfl); (case hr => first | (go_simp; done) | (go_simp; rfl)); intro gb296 hg w111 hbox hb; have n0_ := Aside0.mk (below_step (by repeat (first | (with_reducible first | exact HB.out | apply below_alloc | apply pw_below_drewN | apply below_drew1) | exact HB.out)) hb); have n1_ := Aside0.mk (hbox); have n2_ := Aside0.mk ((by rw [hg]; exact (below_size (by repeat (first | (with_reducible first | exact HB.out | apply below_alloc | apply pw_below_drewN | apply below_drew1) | exact HB.out))) : w.heap.size ≤ gb296)); have n3_ := Aside0.mk ((by rw [hg]; exact (below_size (by repeat (first | (with_reducible first | exact HB.out | apply below_alloc | apply pw_below_drewN | apply below_drew1) | exact HB.out))) : w.heap.size ≤ gb296)); clear HB; have HB := n0_; have BK296 := n1_; have GW296 := n2_; have GE296 := n3_; clear n0_ n1_ n2_ n3_; clear hb hbox hg; have hcz112_0 : w111.cell? ⟨gb296, 0, none⟩ = some (.slice A0_0 l0_0.length c0_0) := (blk_cell BK296.out 0).trans rfl; have hcz112_1 : w111.cell? ⟨gb296, 1, none⟩ = some (.int .i64 a0_1) := (blk_cell BK296.out 1).trans rfl; have hcz112_2 : w111.cell? ⟨gb296, 2, none⟩ = some (.slice A0_2 l0_2.length c0_2) := (blk_cell BK296.out 2).trans rfl; have hfz112_0 := blk_frozen BK296.out 0; have hfz112_1 := blk_frozen BK296.out 1; have hfz112_2 := blk_frozen BK296.out 2) | ((with_reducible refine gate_callee (f := 14) rfl ?_); refine goesL_ (some 14) rfl rfl Try.func14 (by kernel_rfl) rfl #[.agg #[.slice A0_0 l0_0.length c0_0, .int .i64 a0_1, .slice A0_2 l0_2.length c0_2]] rfl (by (try simp only [List.map_toArray, List.map_cons, List.map_nil]); first | done | rfl | (simp only [List.length_drop, List.length_take]; rfl)) ?_; (with_reducible refine (turnstilelaw01_GraphSize.calls k _ _ l0_0 a0_1 _ _ l0_2 t297 _ ?side1 ?side2 ?side3 ?side4 A2.out).mono ?_); (case side1 => repeat (first | exact (Kd.C_below HR0_0.out HB.out) | (with_reducible refine Kd.C_alloc ?_ _) | (with_reducible refine Kd.C_drewN ?_ _) | (with_reducible refine Kd.C_drew ?_))); (case side2 => exact HC0_0.out); (case side3 => repeat (first | exact (Kd.C_below HR0_2.out HB.out) | (with_reducible refine Kd.C_alloc ?_ _) | (with_reducible refine Kd.C_drewN ?_ _) | (with_reducible refine Kd.C_drew ?_))); (case side4 => exact HC0_2.out); rintro e w113 ⟨rfl, hb⟩; refine ⟨_, rfl, ?_⟩; have n0_ := Aside0.mk (blk_below (g := gb296) (o := .cells #[.slice A0_0 l0_0.length c0_0, .int .i64 a0_1, .slice A0_2 l0_2.length c0_2] 25 (0, 0)) (by (with_reducible repeat (first | refine blk_drewN ?_ _ | refine blk_drew ?_ | refine blk_alloc ?_ _)); exact BK296.out) hb); have n1_ := Aside0.mk (below_step (by repeat (first | (with_reducible first | exact HB.out | apply below_alloc | apply pw_below_drewN | apply below_drew1 | refine below_set ?_ GE296.out) | exact HB.out)) hb); clear BK296; clear HB; have BK296 := n0_; have HB := n1_; clear n0_ n1_; (try clear hb); (try clear hb2); (try clear hk); (try clear hi)) | ((with_reducible refine gate_dst (N := 15) rfl ?_); (try (refine gate_guard (by rfl) ?_; dsimp only)); refine Kd.R_lit (Kd.int .i64) _ 3 ?hg (N := 15) ?hd (xs := ([t297] : List Int)) (inner := [.int .i64 t297]) (ok := fun _ => True) (okp := fun _ => True) ?hr ?hp (fun _ hk => hk) trivial (Below.refl _ _) (Nat.le_refl _) (by simp) ?_; (case hd => rfl); (case hg => rfl); (case hr => first | (go_simp; done) | (go_simp; rfl)); (case hp => exact (Reps.one (show Kd.M (Kd.int .i64) _ _ _ t297 [.int .i64 t297] from rfl) (Reps.none _ _))); intro v299 w114 ho115 hb hg_ hnew_; clear hg_ hnew_; (first | rw [← Ny298.out] at ho115 | (simp only [Int.reduceToNat] at ho115; rw [← Ny298.out] at ho115)); have n0_ := Aside0.mk (Kd.R_lower ho115 (below_size (by repeat (first | (with_reducible first | exact HB.out | apply below_alloc | apply pw_below_drewN | apply below_drew1 | refine below_set ?_ GE296.out) | exact HB.out)))); have n1_ := Aside0.mk (blk_below (g := gb296) (o := .cells #[.slice A0_0 l0_0.length c0_0, .int .i64 a0_1, .slice A0_2 l0_2.length c0_2] 25 (0, 0)) (by (with_reducible repeat (first | refine blk_drewN ?_ _ | refine blk_drew ?_ | refine blk_alloc ?_ _)); exact BK296.out) hb); have n2_ := Aside0.mk (below_step (by repeat (first | (with_reducible first | exact HB.out | apply below_alloc | apply pw_below_drewN | apply below_drew1 | refine below_set ?_ GE296.out) | exact HB.out)) hb); clear BK296; clear HB; have HO300 := n0_; have BK296 := n1_; have HB := n2_; clear n0_ n1_ n2_; clear hb ho115; obtain ⟨Ao116, co116, eo116⟩ := Kd.R_slice HO300.out; subst eo116) | ((with_reducible refine gate_callee (f := 13) rfl ?_); refine goesL_ (some 16) rfl rfl Try.func13 (by kernel_rfl) rfl #[.slice Ao116 y298.length co116] rfl (by (try simp only [List.map_toArray, List.map_cons, List.map_nil]); first | done | rfl | (simp only [List.length_drop, List.length_take]; rfl)) ?_; (with_reducible refine (turnstilelaw01_Beyond.calls k _ _ y298 false _ ?side1 ?side2 A3.out).mono ?_); (case side1 => repeat (first | exact (Kd.R_reads' HO300.out).2.2 | (with_reducible refine Kd.C_alloc ?_ _) | (with_reducible refine Kd.C_drewN ?_ _) | (with_reducible refine Kd.C_drew ?_))); (case side2 => exact (Kd.R_reads' HO300.out).2.1); rintro e w' ⟨rfl, ⟨nd, rfl⟩⟩; refine ⟨_, rfl, ?_⟩; have hcz117_0 : w114.cell? ⟨gb296, 0, none⟩ = some (.slice A0_0 l0_0.length c0_0) := (blk_cell BK296.out 0).trans rfl; have hcz117_1 : w114.cell? ⟨gb296, 1, none⟩ = some (.int .i64 a0_1) := (blk_cell BK296.out 1).trans rfl; have hcz117_2 : w114.cell? ⟨gb296, 2, none⟩ = some (.slice A0_2 l0_2.length c0_2) := (blk_cell BK296.out 2).trans rfl; have hfz117_0 := blk_frozen BK296.out 0; have hfz117_1 := blk_frozen BK296.out 1; have hfz117_2 := blk_frozen BK296.out 2) | ((with_reducible refine gate_callee (f := 49) rfl ?_); refine goesL_ (some 19) rfl rfl Try.func49 (by kernel_rfl) rfl #[.agg #[.slice A0_0 l0_0.length c0_0, .int .i64 a0_1, .slice A0_2 l0_2.length c0_2]] rfl (by (try simp only [List.map_toArray, List.map_cons, List.map_nil]); first | done | rfl | (simp only [List.length_drop, List.length_take]; rfl)) ?_; (with_reducible refine (flow_Reach.calls k _ _ l0_0 a0_1 _ _ l0_2 t302 t305 _ ?side1 ?side2 ?side3 ?side4 A11.out).mono ?_); (case side1 => repeat (first | exact (Kd.C_below HR0_0.out (by repeat (first | (with_reducible first | exact HB.out | apply below_alloc | apply pw_below_drewN | apply below_drew1 | refine below_set ?_ GE296.out) | exact HB.out))) | (with_reducible refine Kd.C_alloc ?_ _) | (with_reducible refine Kd.C_drewN ?_ _) | (with_reducible refine Kd.C_drew ?_))); (case side2 => exact HC0_0.out); (case side3 => repeat (first | exact (Kd.C_below HR0_2.out (by repeat (first | (with_reducible first | exact HB.out | apply below_alloc | apply pw_below_drewN | apply below_drew1 | refine below_set ?_ GE296.out) | exact HB.out))) | (with_reducible refine Kd.C_alloc ?_ _) | (with_reducible refine Kd.C_drewN ?_ _) | (with_reducible refine Kd.C_drew ?_))); (case side4 => exact HC0_2.out); rintro e w118 ⟨v303, rfl, ho0, hb⟩; refine ⟨_, rfl, ?_⟩; have n0_ := Aside0.mk (Kd.R_below (by (with_reducible repeat (first | apply Kd.R_alloc | apply Kd.R_drewN | apply Kd.R_drew)); exact HO300.out) hb); have n1_ := Aside0.mk (Kd.R_lower ho0 (below_size (by repeat (first | (with_reducible first | exact HB.out | apply below_alloc | apply pw_below_drewN | apply below_drew1 | refine below_set ?_ GE296.out) | exact HB.out)))); have n2_ := Aside0.mk (blk_below (g := gb296) (o := .cells #[.slice A0_0 l0_0.length c0_0, .int .i64 a0_1, .slice A0_2 l0_2.length c0_2] 25 (0, 0)) (by (with_reducible repeat (first | refine blk_drewN ?_ _ | refine blk_drew ?_ | refine blk_alloc ?_ _)); exact BK296.out) hb); have n3_ := Aside0.mk (below_step (by repeat (first | (with_reducible first | exact HB.out | apply below_alloc | apply pw_below_drewN | apply below_drew1 | refine below_set ?_ GE296.out) | exact HB.out)) hb); clear HO300; clear BK296; clear HB; have HO300 := n0_; have HO304 := n1_; have BK296 := n2_; have HB := n3_; clear n0_ n1_ n2_ n3_; (try clear hb); (try clear hb2); (try clear hk); (try clear hi); (try clear ho0); have hcz119_0 : w118.cell? ⟨gb296, 0, none⟩ = some (.slice A0_0 l0_0.length c0_0) := (blk_cell BK296.out 0).trans rfl; have hcz119_1 : w118.cell? ⟨gb296, 1, none⟩ = some (.int .i64 a0_1) := (blk_cell BK296.out 1).trans rfl; have hcz119_2 : w118.cell? ⟨gb296, 2, none⟩ = some (.slice A0_2 l0_2.length c0_2) := (blk_cell BK296.out 2).trans rfl; have hfz119_0 := blk_frozen BK296.out 0; have hfz119_1 := blk_frozen BK296.out 1; have hfz119_2 := blk_frozen BK296.out 2) | ((with_reducible refine gate_callee (f := 50) rfl ?_); refine goesL_ (some 24) rfl rfl Try.func50 (by kernel_rfl) rfl #[.agg #[.slice A0_0 l0_0.length c0_0, .int .i64 a0_1, .slice A0_2 l0_2.length c0_2]] rfl (by (try simp only [List.map_toArray, List.map_cons, List.map_nil]); first | done | rfl | (simp only [List.length_drop, List.length_take]; rfl)) ?_; (with_reducible refine (flow_Ahead.calls _ _ l0_0 a0_1 _ _ l0_2 t306 t309 _ ?side1 ?side2 ?side3 ?side4 A12.out).mono ?_); (case side1 => repeat (first | exact (Kd.C_below HR0_0.out HB.out) | (with_reducible refine Kd.C_alloc ?_ _) | (with_reducible refine Kd.C_drewN ?_ _) | (with_reducible refine Kd.C_drew ?_))); (case side2 => exact HC0_0.out); (case side3 => repeat (first | exact (Kd.C_below HR0_2.out HB.out) | (with_reducible refine Kd.C_alloc ?_ _) | (with_reducible refine Kd.C_drewN ?_ _) | (with_reducible refine Kd.C_drew ?_))); (case side4 => exact HC0_2.out); rintro e w120 ⟨v307, rfl, ho0, hb⟩; refine ⟨_, rfl, ?_⟩; have n0_ := Aside0.mk (Kd.R_below (by (with_reducible repeat (first | apply Kd.R_alloc | apply Kd.R_drewN | apply Kd.R_drew)); exact HO300.out) hb); have n1_ := Aside0.mk (Kd.R_below (by (with_reducible repeat (first | apply Kd.R_alloc | apply Kd.R_drewN | apply Kd.R_drew)); exact HO304.out) hb); have n2_ := Aside0.mk (Kd.S_lower (Kd.S_new' ho0 (Kd.R_lt (by (with_reducible repeat (first | apply Kd.R_alloc | apply Kd.R_drewN | apply Kd.R_drew)); exact HO300.out))) (below_size (by repeat (first | (with_reducible first | exact HB.out | apply below_alloc | apply pw_below_drewN | apply below_drew1 | refine below_set ?_ GE296.out) | exact HB.out)))); have n3_ := Aside0.mk (blk_below (g := gb296) (o := .cells #[.slice A0_0 l0_0.length c0_0, .int .i64 a0_1, .slice A0_2 l0_2.length c0_2] 25 (0, 0)) (by (with_reducible repeat (first | refine blk_drewN ?_ _ | refine blk_drew ?_ | refine blk_alloc ?_ _)); exact BK296.out) hb); have n4_ := Aside0.mk (below_step (by repeat (first | (with_reducible first | exact HB.out | apply below_alloc | apply pw_below_drewN | apply below_drew1 | refine below_set ?_ GE296.out) | exact HB.out)) hb); clear HO300; clear HO304; clear BK296; clear HB; have HO300 := n0_; have HO304 := n1_; have HO308 := n2_; have BK296 := n3_; have HB := n4_; clear n0_ n1_ n2_ n3_ n4_; (try clear hb); (try clear hb2); (try clear hk); (try clear hi); (try clear ho0); have hcz121_0 : w120.cell? ⟨gb296, 0, none⟩ = some (.slice A0_0 l0_0.length c0_0) := (blk_cell BK296.out 0).trans rfl; have hcz121_1 : w120.cell? ⟨gb296, 1, none⟩ = some (.int .i64 a0_1) := (blk_cell BK296.out 1).trans rfl; have hcz121_2 : w120.cell? ⟨gb296, 2, none⟩ = some (.slice A0_2 l0_2.length c0_2) := (blk_cell BK296.out 2).trans rfl; have hfz121_0 := blk_frozen BK296.out 0; have hfz121_1 := blk_frozen BK296.out 1; have hfz121_2 := blk_frozen BK296.out 2) | ((with_reducible refine gate_callee (f := 51) rfl ?_); refine goesL_ (some 29) rfl rfl Try.func51 (by kernel_rfl) rfl #[.agg #[.slice A0_0 l0_0.length c0_0, .int .i64 a0_1, .slice A0_2 l0_2.length c0_2]] rfl (by (try simp only [List.map_toArray, List.map_cons, List.map_nil]); first | done | rfl | (simp only [List.length_drop, List.length_take]; rfl)) ?_; (with_reducible refine (flow_Dom.calls _ _ l0_0 a0_1 _ _ l0_2 t310 t313 _ ?side1 ?side2 ?side3 ?side4 A13.out).mono ?_); (case side1 => repeat (first | exact (Kd.C_below HR0_0.out HB.out) | (with_reducible refine Kd.C_alloc ?_ _) | (with_reducible refine Kd.C_drewN ?_ _) | (with_reducible refine Kd.C_drew ?_))); (case side2 => exact HC0_0.out); (case side3 => repeat (first | exact (Kd.C_below HR0_2.out HB.out) | (with_reducible refine Kd.C_alloc ?_ _) | (with_reducible refine Kd.C_drewN ?_ _) | (with_reducible refine Kd.C_drew ?_))); (case side4 => exact HC0_2.out); rintro e w122 ⟨v311, rfl, ho0, hb⟩; refine ⟨_, rfl, ?_⟩; have n0_ := Aside0.mk (Kd.R_elder' (by (with_reducible repeat (first | apply Kd.R_alloc | apply Kd.R_drewN | apply Kd.R_drew)); exact HO300.out) (Kd.R_base ho0) hb); have n1_ := Aside0.mk (Kd.R_below (by (with_reducible repeat (first | apply Kd.R_alloc | apply Kd.R_drewN | apply Kd.R_drew)); exact HO304.out) hb); have n2_ := Aside0.mk (Kd.S_elder' (by (with_reducible repeat (first | apply Kd.S_alloc | apply Kd.S_drewN | apply Kd.S_drew)); exact HO308.out) (Kd.R_base ho0) hb); have n3_ := Aside0.mk (Kd.R_lower (Kd.R_new' ho0 (Kd.R_lt (by (with_reducible repeat (first | apply Kd.R_alloc | apply Kd.R_drewN | apply Kd.R_drew)); exact HO300.out))) (below_size (by repeat (first | (with_reducible first | exact HB.out | apply below_alloc | apply pw_below_drewN | apply below_drew1 | refine below_set ?_ GE296.out) | exact HB.out)))); have n4_ := Aside0.mk (blk_below (g := gb296) (o := .cells #[.slice A0_0 l0_0.length c0_0, .int .i64 a0_1, .slice A0_2 l0_2.length c0_2] 25 (0, 0)) (by (with_reducible repeat (first | refine blk_drewN ?_ _ | refine blk_drew ?_ | refine blk_alloc ?_ _)); exact BK296.out) hb); have n5_ := Aside0.mk (below_step (by repeat (first | (with_reducible first | exact HB.out | apply below_alloc | apply pw_below_drewN | apply below_drew1 | refine below_set ?_ GE296.out) | exact HB.out)) hb); clear HO300; clear HO304; clear HO308; clear BK296; clear HB; have HO300 := n0_; have HO304 := n1_; have HO308 := n2_; have HO312 := n3_; have BK296 := n4_; have HB := n5_; clear n0_ n1_ n2_ n3_ n4_ n5_; (try clear hb); (try clear hb2); (try clear hk); (try clear hi); (try clear ho0); obtain ⟨Ao123, co123, eo123⟩ := Kd.R_slice HO304.out; subst eo123; obtain ⟨Ao124, co124, eo124⟩ := Kd.S_slice HO308.out; subst eo124; obtain ⟨Ao125, co125, eo125⟩ := Kd.R_slice HO312.out; subst eo125))
            go_ret
            exact ⟨by first | rfl | (simp [errW_none, errW_some] <;> rfl) | (simp [*, errW_none, errW_some] <;> rfl), by repeat (first | (with_reducible first | exact HB.out | apply below_alloc | apply pw_below_drewN | apply below_drew1 | refine below_set ?_ GE296.out) | exact HB.out)⟩
        · rw [if_neg c92] at H
          have c92b0 : (t313 == t305) = false := beq_eq_false_iff_ne.mpr c92
          have c92b1 : (t313 != t305) = true := bne_iff_ne.mpr c92
          obtain rfl := Option.some.inj H
          go_enter Try.func11, Try.ntmps11
          go_wp2_with (first | ((with_reducible refine gate_dst (N := 1) rfl ?_); (try (refine gate_guard (by rfl) ?_; dsimp only)); refine box_event ?hg (N := 1) ?hd (cs := #[.slice A0_0 l0_0.length c0_0, .int .i64 a0_1, .slice A0_2 l0_2.length c0_2]) (t := 25) ?hr ?_; (case hd => rfl); (case hg => rfl); (case hr => first | (go_simp; done) | (go_simp; rfl)); intro gb296 hg w126 hbox hb; have n0_ := Aside0.mk (below_step (by repeat (first | (with_reducible first | exact HB.out | apply below_alloc | apply pw_below_drewN | apply below_drew1) | exact HB.out)) hb); have n1_ := Aside0.mk (hbox); have n2_ := Aside0.mk ((by rw [hg]; exact (below_size (by repeat (first | (with_reducible first | exact HB.out | apply below_alloc | apply pw_below_drewN | apply below_drew1) | exact HB.out))) : w.heap.size ≤ gb296)); have n3_ := Aside0.mk ((by rw [hg]; exact (below_size (by repeat (first | (with_reducible first | exact HB.out | apply below_alloc | apply pw_below_drewN | apply below_drew1) | exact HB.out))) : w.heap.size ≤ gb296)); clear HB; have HB := n0_; have BK296 := n1_; have GW296 := n2_; have GE296 := n3_; clear n0_ n1_ n2_ n3_; clear hb hbox hg; have hcz127_0 : w126.cell? ⟨gb296, 0, none⟩ = some (.slice A0_0 l0_0.length c0_0) := (blk_cell BK296.out 0).trans rfl; have hcz127_1 : w126.cell? ⟨gb296, 1, none⟩ = some (.int .i64 a0_1) := (blk_cell BK296.out 1).trans rfl; have hcz127_2 : w126.cell? ⟨gb296, 2, none⟩ = some (.slice A0_2 l0_2.length c0_2) := (blk_cell BK296.out 2).trans rfl; have hfz127_0 := blk_frozen BK296.out 0; have hfz127_1 := blk_frozen BK296.out 1; have hfz127_2 := blk_frozen BK296.out 2) | ((with_reducible refine gate_callee (f := 14) rfl ?_); refine goesL_ (some 14) rfl rfl Try.func14 (by kernel_rfl) rfl #[.agg #[.slice A0_0 l0_0.length c0_0, .int .i64 a0_1, .slice A0_2 l0_2.length c0_2]] rfl (by (try simp only [List.map_toArray, List.map_cons, List.map_nil]); first | done | rfl | (simp only [List.length_drop, List.length_take]; rfl)) ?_; (with_reducible refine (turnstilelaw01_GraphSize.calls k _ _ l0_0 a0_1 _ _ l0_2 t297 _ ?side1 ?side2 ?side3 ?side4 A2.out).mono ?_); (case side1 => repeat (first | exact (Kd.C_below HR0_0.out HB.out) | (with_reducible refine Kd.C_alloc ?_ _) | (with_reducible refine Kd.C_drewN ?_ _) | (with_reducible refine Kd.C_drew ?_))); (case side2 => exact HC0_0.out); (case side3 => repeat (first | exact (Kd.C_below HR0_2.out HB.out) | (with_reducible refine Kd.C_alloc ?_ _) | (with_reducible refine Kd.C_drewN ?_ _) | (with_reducible refine Kd.C_drew ?_))); (case side4 => exact HC0_2.out); rintro e w128 ⟨rfl, hb⟩; refine ⟨_, rfl, ?_⟩; have n0_ := Aside0.mk (blk_below (g := gb296) (o := .cells #[.slice A0_0 l0_0.length c0_0, .int .i64 a0_1, .slice A0_2 l0_2.length c0_2] 25 (0, 0)) (by (with_reducible repeat (first | refine blk_drewN ?_ _ | refine blk_drew ?_ | refine blk_alloc ?_ _)); exact BK296.out) hb); have n1_ := Aside0.mk (below_step (by repeat (first | (with_reducible first | exact HB.out | apply below_alloc | apply pw_below_drewN | apply below_drew1 | refine below_set ?_ GE296.out) | exact HB.out)) hb); clear BK296; clear HB; have BK296 := n0_; have HB := n1_; clear n0_ n1_; (try clear hb); (try clear hb2); (try clear hk); (try clear hi)) | ((with_reducible refine gate_dst (N := 15) rfl ?_); (try (refine gate_guard (by rfl) ?_; dsimp only)); refine Kd.R_lit (Kd.int .i64) _ 3 ?hg (N := 15) ?hd (xs := ([t297] : List Int)) (inner := [.int .i64 t297]) (ok := fun _ => True) (okp := fun _ => True) ?hr ?hp (fun _ hk => hk) trivial (Below.refl _ _) (Nat.le_refl _) (by simp) ?_; (case hd => rfl); (case hg => rfl); (case hr => first | (go_simp; done) | (go_simp; rfl)); (case hp => exact (Reps.one (show Kd.M (Kd.int .i64) _ _ _ t297 [.int .i64 t297] from rfl) (Reps.none _ _))); intro v299 w129 ho130 hb hg_ hnew_; clear hg_ hnew_; (first | rw [← Ny298.out] at ho130 | (simp only [Int.reduceToNat] at ho130; rw [← Ny298.out] at ho130)); have n0_ := Aside0.mk (Kd.R_lower ho130 (below_size (by repeat (first | (with_reducible first | exact HB.out | apply below_alloc | apply pw_below_drewN | apply below_drew1 | refine below_set ?_ GE296.out) | exact HB.out)))); have n1_ := Aside0.mk (blk_below (g := gb296) (o := .cells #[.slice A0_0 l0_0.length c0_0, .int .i64 a0_1, .slice A0_2 l0_2.length c0_2] 25 (0, 0)) (by (with_reducible repeat (first | refine blk_drewN ?_ _ | refine blk_drew ?_ | refine blk_alloc ?_ _)); exact BK296.out) hb); have n2_ := Aside0.mk (below_step (by repeat (first | (with_reducible first | exact HB.out | apply below_alloc | apply pw_below_drewN | apply below_drew1 | refine below_set ?_ GE296.out) | exact HB.out)) hb); clear BK296; clear HB; have HO300 := n0_; have BK296 := n1_; have HB := n2_; clear n0_ n1_ n2_; clear hb ho130; obtain ⟨Ao131, co131, eo131⟩ := Kd.R_slice HO300.out; subst eo131) | ((with_reducible refine gate_callee (f := 13) rfl ?_); refine goesL_ (some 16) rfl rfl Try.func13 (by kernel_rfl) rfl #[.slice Ao131 y298.length co131] rfl (by (try simp only [List.map_toArray, List.map_cons, List.map_nil]); first | done | rfl | (simp only [List.length_drop, List.length_take]; rfl)) ?_; (with_reducible refine (turnstilelaw01_Beyond.calls k _ _ y298 false _ ?side1 ?side2 A3.out).mono ?_); (case side1 => repeat (first | exact (Kd.R_reads' HO300.out).2.2 | (with_reducible refine Kd.C_alloc ?_ _) | (with_reducible refine Kd.C_drewN ?_ _) | (with_reducible refine Kd.C_drew ?_))); (case side2 => exact (Kd.R_reads' HO300.out).2.1); rintro e w' ⟨rfl, ⟨nd, rfl⟩⟩; refine ⟨_, rfl, ?_⟩; have hcz132_0 : w129.cell? ⟨gb296, 0, none⟩ = some (.slice A0_0 l0_0.length c0_0) := (blk_cell BK296.out 0).trans rfl; have hcz132_1 : w129.cell? ⟨gb296, 1, none⟩ = some (.int .i64 a0_1) := (blk_cell BK296.out 1).trans rfl; have hcz132_2 : w129.cell? ⟨gb296, 2, none⟩ = some (.slice A0_2 l0_2.length c0_2) := (blk_cell BK296.out 2).trans rfl; have hfz132_0 := blk_frozen BK296.out 0; have hfz132_1 := blk_frozen BK296.out 1; have hfz132_2 := blk_frozen BK296.out 2) | ((with_reducible refine gate_callee (f := 49) rfl ?_); refine goesL_ (some 19) rfl rfl Try.func49 (by kernel_rfl) rfl #[.agg #[.slice A0_0 l0_0.length c0_0, .int .i64 a0_1, .slice A0_2 l0_2.length c0_2]] rfl (by (try simp only [List.map_toArray, List.map_cons, List.map_nil]); first | done | rfl | (simp only [List.length_drop, List.length_take]; rfl)) ?_; (with_reducible refine (flow_Reach.calls k _ _ l0_0 a0_1 _ _ l0_2 t302 t305 _ ?side1 ?side2 ?side3 ?side4 A11.out).mono ?_); (case side1 => repeat (first | exact (Kd.C_below HR0_0.out (by repeat (first | (with_reducible first | exact HB.out | apply below_alloc | apply pw_below_drewN | apply below_drew1 | refine below_set ?_ GE296.out) | exact HB.out))) | (with_reducible refine Kd.C_alloc ?_ _) | (with_reducible refine Kd.C_drewN ?_ _) | (with_reducible refine Kd.C_drew ?_))); (case side2 => exact HC0_0.out); (case side3 => repeat (first | exact (Kd.C_below HR0_2.out (by repeat (first | (with_reducible first | exact HB.out | apply below_alloc | apply pw_below_drewN | apply below_drew1 | refine below_set ?_ GE296.out) | exact HB.out))) | (with_reducible refine Kd.C_alloc ?_ _) | (with_reducible refine Kd.C_drewN ?_ _) | (with_reducible refine Kd.C_drew ?_))); (case side4 => exact HC0_2.out); rintro e w133 ⟨v303, rfl, ho0, hb⟩; refine ⟨_, rfl, ?_⟩; have n0_ := Aside0.mk (Kd.R_below (by (with_reducible repeat (first | apply Kd.R_alloc | apply Kd.R_drewN | apply Kd.R_drew)); exact HO300.out) hb); have n1_ := Aside0.mk (Kd.R_lower ho0 (below_size (by repeat (first | (with_reducible first | exact HB.out | apply below_alloc | apply pw_below_drewN | apply below_drew1 | refine below_set ?_ GE296.out) | exact HB.out)))); have n2_ := Aside0.mk (blk_below (g := gb296) (o := .cells #[.slice A0_0 l0_0.length c0_0, .int .i64 a0_1, .slice A0_2 l0_2.length c0_2] 25 (0, 0)) (by (with_reducible repeat (first | refine blk_drewN ?_ _ | refine blk_drew ?_ | refine blk_alloc ?_ _)); exact BK296.out) hb); have n3_ := Aside0.mk (below_step (by repeat (first | (with_reducible first | exact HB.out | apply below_alloc | apply pw_below_drewN | apply below_drew1 | refine below_set ?_ GE296.out) | exact HB.out)) hb); clear HO300; clear BK296; clear HB; have HO300 := n0_; have HO304 := n1_; have BK296 := n2_; have HB := n3_; clear n0_ n1_ n2_ n3_; (try clear hb); (try clear hb2); (try clear hk); (try clear hi); (try clear ho0); have hcz134_0 : w133.cell? ⟨gb296, 0, none⟩ = some (.slice A0_0 l0_0.length c0_0) := (blk_cell BK296.out 0).trans rfl; have hcz134_1 : w133.cell? ⟨gb296, 1, none⟩ = some (.int .i64 a0_1) := (blk_cell BK296.out 1).trans rfl; have hcz134_2 : w133.cell? ⟨gb296, 2, none⟩ = some (.slice A0_2 l0_2.length c0_2) := (blk_cell BK296.out 2).trans rfl; have hfz134_0 := blk_frozen BK296.out 0; have hfz134_1 := blk_frozen BK296.out 1; have hfz134_2 := blk_frozen BK296.out 2) | ((with_reducible refine gate_callee (f := 50) rfl ?_); refine goesL_ (some 24) rfl rfl Try.func50 (by kernel_rfl) rfl #[.agg #[.slice A0_0 l0_0.length c0_0, .int .i64 a0_1, .slice A0_2 l0_2.length c0_2]] rfl (by (try simp only [List.map_toArray, List.map_cons, List.map_nil]); first | done | rfl | (simp only [List.length_drop, List.length_take]; rfl)) ?_; (with_reducible refine (flow_Ahead.calls _ _ l0_0 a0_1 _ _ l0_2 t306 t309 _ ?side1 ?side2 ?side3 ?side4 A12.out).mono ?_); (case side1 => repeat (first | exact (Kd.C_below HR0_0.out HB.out) | (with_reducible refine Kd.C_alloc ?_ _) | (with_reducible refine Kd.C_drewN ?_ _) | (with_reducible refine Kd.C_drew ?_))); (case side2 => exact HC0_0.out); (case side3 => repeat (first | exact (Kd.C_below HR0_2.out HB.out) | (with_reducible refine Kd.C_alloc ?_ _) | (with_reducible refine Kd.C_drewN ?_ _) | (with_reducible refine Kd.C_drew ?_))); (case side4 => exact HC0_2.out); rintro e w135 ⟨v307, rfl, ho0, hb⟩; refine ⟨_, rfl, ?_⟩; have n0_ := Aside0.mk (Kd.R_below (by (with_reducible repeat (first | apply Kd.R_alloc | apply Kd.R_drewN | apply Kd.R_drew)); exact HO300.out) hb); have n1_ := Aside0.mk (Kd.R_below (by (with_reducible repeat (first | apply Kd.R_alloc | apply Kd.R_drewN | apply Kd.R_drew)); exact HO304.out) hb); have n2_ := Aside0.mk (Kd.S_lower (Kd.S_new' ho0 (Kd.R_lt (by (with_reducible repeat (first | apply Kd.R_alloc | apply Kd.R_drewN | apply Kd.R_drew)); exact HO300.out))) (below_size (by repeat (first | (with_reducible first | exact HB.out | apply below_alloc | apply pw_below_drewN | apply below_drew1 | refine below_set ?_ GE296.out) | exact HB.out)))); have n3_ := Aside0.mk (blk_below (g := gb296) (o := .cells #[.slice A0_0 l0_0.length c0_0, .int .i64 a0_1, .slice A0_2 l0_2.length c0_2] 25 (0, 0)) (by (with_reducible repeat (first | refine blk_drewN ?_ _ | refine blk_drew ?_ | refine blk_alloc ?_ _)); exact BK296.out) hb); have n4_ := Aside0.mk (below_step (by repeat (first | (with_reducible first | exact HB.out | apply below_alloc | apply pw_below_drewN | apply below_drew1 | refine below_set ?_ GE296.out) | exact HB.out)) hb); clear HO300; clear HO304; clear BK296; clear HB; have HO300 := n0_; have HO304 := n1_; have HO308 := n2_; have BK296 := n3_; have HB := n4_; clear n0_ n1_ n2_ n3_ n4_; (try clear hb); (try clear hb2); (try clear hk); (try clear hi); (try clear ho0); have hcz136_0 : w135.cell? ⟨gb296, 0, none⟩ = some (.slice A0_0 l0_0.length c0_0) := (blk_cell BK296.out 0).trans rfl; have hcz136_1 : w135.cell? ⟨gb296, 1, none⟩ = some (.int .i64 a0_1) := (blk_cell BK296.out 1).trans rfl; have hcz136_2 : w135.cell? ⟨gb296, 2, none⟩ = some (.slice A0_2 l0_2.length c0_2) := (blk_cell BK296.out 2).trans rfl; have hfz136_0 := blk_frozen BK296.out 0; have hfz136_1 := blk_frozen BK296.out 1; have hfz136_2 := blk_frozen BK296.out 2) | ((with_reducible refine gate_callee (f := 51) rfl ?_); refine goesL_ (some 29) rfl rfl Try.func51 (by kernel_rfl) rfl #[.agg #[.slice A0_0 l0_0.length c0_0, .int .i64 a0_1, .slice A0_2 l0_2.length c0_2]] rfl (by (try simp only [List.map_toArray, List.map_cons, List.map_nil]); first | done | rfl | (simp only [List.length_drop, List.length_take]; rfl)) ?_; (with_reducible refine (flow_Dom.calls _ _ l0_0 a0_1 _ _ l0_2 t310 t313 _ ?side1 ?side2 ?side3 ?side4 A13.out).mono ?_); (case side1 => repeat (first | exact (Kd.C_below HR0_0.out HB.out) | (with_reducible refine Kd.C_alloc ?_ _) | (with_reducible refine Kd.C_drewN ?_ _) | (with_reducible refine Kd.C_drew ?_))); (case side2 => exact HC0_0.out); (case side3 => repeat (first | exact (Kd.C_below HR0_2.out HB.out) | (with_reducible refine Kd.C_alloc ?_ _) | (with_reducible refine Kd.C_drewN ?_ _) | (with_reducible refine Kd.C_drew ?_))); (case side4 => exact HC0_2.out); rintro e w137 ⟨v311, rfl, ho0, hb⟩; refine ⟨_, rfl, ?_⟩; have n0_ := Aside0.mk (Kd.R_elder' (by (with_reducible repeat (first | apply Kd.R_alloc | apply Kd.R_drewN | apply Kd.R_drew)); exact HO300.out) (Kd.R_base ho0) hb); have n1_ := Aside0.mk (Kd.R_below (by (with_reducible repeat (first | apply Kd.R_alloc | apply Kd.R_drewN | apply Kd.R_drew)); exact HO304.out) hb); have n2_ := Aside0.mk (Kd.S_elder' (by (with_reducible repeat (first | apply Kd.S_alloc | apply Kd.S_drewN | apply Kd.S_drew)); exact HO308.out) (Kd.R_base ho0) hb); have n3_ := Aside0.mk (Kd.R_lower (Kd.R_new' ho0 (Kd.R_lt (by (with_reducible repeat (first | apply Kd.R_alloc | apply Kd.R_drewN | apply Kd.R_drew)); exact HO300.out))) (below_size (by repeat (first | (with_reducible first | exact HB.out | apply below_alloc | apply pw_below_drewN | apply below_drew1 | refine below_set ?_ GE296.out) | exact HB.out)))); have n4_ := Aside0.mk (blk_below (g := gb296) (o := .cells #[.slice A0_0 l0_0.length c0_0, .int .i64 a0_1, .slice A0_2 l0_2.length c0_2] 25 (0, 0)) (by (with_reducible repeat (first | refine blk_drewN ?_ _ | refine blk_drew ?_ | refine blk_alloc ?_ _)); exact BK296.out) hb); have n5_ := Aside0.mk (below_step (by repeat (first | (with_reducible first | exact HB.out | apply below_alloc | apply pw_below_drewN | apply below_drew1 | refine below_set ?_ GE296.out) | exact HB.out)) hb); clear HO300; clear HO304; clear HO308; clear BK296; clear HB; have HO300 := n0_; have HO304 := n1_; have HO308 := n2_; have HO312 := n3_; have BK296 := n4_; have HB := n5_; clear n0_ n1_ n2_ n3_ n4_ n5_; (try clear hb); (try clear hb2); (try clear hk); (try clear hi); (try clear ho0)))
          go_ret
          exact ⟨by first | rfl | (simp [errW_none, errW_some] <;> rfl) | (simp [*, errW_none, errW_some] <;> rfl), by repeat (first | (with_reducible first | exact HB.out | apply below_alloc | apply pw_below_drewN | apply below_drew1 | refine below_set ?_ GE296.out) | exact HB.out)⟩
      · rw [if_neg c91] at H
        have c91b0 : (t309 == t305) = false := beq_eq_false_iff_ne.mpr c91
        have c91b1 : (t309 != t305) = true := bne_iff_ne.mpr c91
        obtain rfl := Option.some.inj H
        go_enter Try.func11, Try.ntmps11
        go_wp2_with (first | ((with_reducible refine gate_dst (N := 1) rfl ?_); (try (refine gate_guard (by rfl) ?_; dsimp only)); refine box_event ?hg (N := 1) ?hd (cs := #[.slice A0_0 l0_0.length c0_0, .int .i64 a0_1, .slice A0_2 l0_2.length c0_2]) (t := 25) ?hr ?_; (case hd => rfl); (case hg => rfl); (case hr => first | (go_simp; done) | (go_simp; rfl)); intro gb296 hg w138 hbox hb; have n0_ := Aside0.mk (below_step (by repeat (first | (with_reducible first | exact HB.out | apply below_alloc | apply pw_below_drewN | apply below_drew1) | exact HB.out)) hb); have n1_ := Aside0.mk (hbox); have n2_ := Aside0.mk ((by rw [hg]; exact (below_size (by repeat (first | (with_reducible first | exact HB.out | apply below_alloc | apply pw_below_drewN | apply below_drew1) | exact HB.out))) : w.heap.size ≤ gb296)); have n3_ := Aside0.mk ((by rw [hg]; exact (below_size (by repeat (first | (with_reducible first | exact HB.out | apply below_alloc | apply pw_below_drewN | apply below_drew1) | exact HB.out))) : w.heap.size ≤ gb296)); clear HB; have HB := n0_; have BK296 := n1_; have GW296 := n2_; have GE296 := n3_; clear n0_ n1_ n2_ n3_; clear hb hbox hg; have hcz139_0 : w138.cell? ⟨gb296, 0, none⟩ = some (.slice A0_0 l0_0.length c0_0) := (blk_cell BK296.out 0).trans rfl; have hcz139_1 : w138.cell? ⟨gb296, 1, none⟩ = some (.int .i64 a0_1) := (blk_cell BK296.out 1).trans rfl; have hcz139_2 : w138.cell? ⟨gb296, 2, none⟩ = some (.slice A0_2 l0_2.length c0_2) := (blk_cell BK296.out 2).trans rfl; have hfz139_0 := blk_frozen BK296.out 0; have hfz139_1 := blk_frozen BK296.out 1; have hfz139_2 := blk_frozen BK296.out 2) | ((with_reducible refine gate_callee (f := 14) rfl ?_); refine goesL_ (some 14) rfl rfl Try.func14 (by kernel_rfl) rfl #[.agg #[.slice A0_0 l0_0.length c0_0, .int .i64 a0_1, .slice A0_2 l0_2.length c0_2]] rfl (by (try simp only [List.map_toArray, List.map_cons, List.map_nil]); first | done | rfl | (simp only [List.length_drop, List.length_take]; rfl)) ?_; (with_reducible refine (turnstilelaw01_GraphSize.calls k _ _ l0_0 a0_1 _ _ l0_2 t297 _ ?side1 ?side2 ?side3 ?side4 A2.out).mono ?_); (case side1 => repeat (first | exact (Kd.C_below HR0_0.out HB.out) | (with_reducible refine Kd.C_alloc ?_ _) | (with_reducible refine Kd.C_drewN ?_ _) | (with_reducible refine Kd.C_drew ?_))); (case side2 => exact HC0_0.out); (case side3 => repeat (first | exact (Kd.C_below HR0_2.out HB.out) | (with_reducible refine Kd.C_alloc ?_ _) | (with_reducible refine Kd.C_drewN ?_ _) | (with_reducible refine Kd.C_drew ?_))); (case side4 => exact HC0_2.out); rintro e w140 ⟨rfl, hb⟩; refine ⟨_, rfl, ?_⟩; have n0_ := Aside0.mk (blk_below (g := gb296) (o := .cells #[.slice A0_0 l0_0.length c0_0, .int .i64 a0_1, .slice A0_2 l0_2.length c0_2] 25 (0, 0)) (by (with_reducible repeat (first | refine blk_drewN ?_ _ | refine blk_drew ?_ | refine blk_alloc ?_ _)); exact BK296.out) hb); have n1_ := Aside0.mk (below_step (by repeat (first | (with_reducible first | exact HB.out | apply below_alloc | apply pw_below_drewN | apply below_drew1 | refine below_set ?_ GE296.out) | exact HB.out)) hb); clear BK296; clear HB; have BK296 := n0_; have HB := n1_; clear n0_ n1_; (try clear hb); (try clear hb2); (try clear hk); (try clear hi)) | ((with_reducible refine gate_dst (N := 15) rfl ?_); (try (refine gate_guard (by rfl) ?_; dsimp only)); refine Kd.R_lit (Kd.int .i64) _ 3 ?hg (N := 15) ?hd (xs := ([t297] : List Int)) (inner := [.int .i64 t297]) (ok := fun _ => True) (okp := fun _ => True) ?hr ?hp (fun _ hk => hk) trivial (Below.refl _ _) (Nat.le_refl _) (by simp) ?_; (case hd => rfl); (case hg => rfl); (case hr => first | (go_simp; done) | (go_simp; rfl)); (case hp => exact (Reps.one (show Kd.M (Kd.int .i64) _ _ _ t297 [.int .i64 t297] from rfl) (Reps.none _ _))); intro v299 w141 ho142 hb hg_ hnew_; clear hg_ hnew_; (first | rw [← Ny298.out] at ho142 | (simp only [Int.reduceToNat] at ho142; rw [← Ny298.out] at ho142)); have n0_ := Aside0.mk (Kd.R_lower ho142 (below_size (by repeat (first | (with_reducible first | exact HB.out | apply below_alloc | apply pw_below_drewN | apply below_drew1 | refine below_set ?_ GE296.out) | exact HB.out)))); have n1_ := Aside0.mk (blk_below (g := gb296) (o := .cells #[.slice A0_0 l0_0.length c0_0, .int .i64 a0_1, .slice A0_2 l0_2.length c0_2] 25 (0, 0)) (by (with_reducible repeat (first | refine blk_drewN ?_ _ | refine blk_drew ?_ | refine blk_alloc ?_ _)); exact BK296.out) hb); have n2_ := Aside0.mk (below_step (by repeat (first | (with_reducible first | exact HB.out | apply below_alloc | apply pw_below_drewN | apply below_drew1 | refine below_set ?_ GE296.out) | exact HB.out)) hb); clear BK296; clear HB; have HO300 := n0_; have BK296 := n1_; have HB := n2_; clear n0_ n1_ n2_; clear hb ho142; obtain ⟨Ao143, co143, eo143⟩ := Kd.R_slice HO300.out; subst eo143) | ((with_reducible refine gate_callee (f := 13) rfl ?_); refine goesL_ (some 16) rfl rfl Try.func13 (by kernel_rfl) rfl #[.slice Ao143 y298.length co143] rfl (by (try simp only [List.map_toArray, List.map_cons, List.map_nil]); first | done | rfl | (simp only [List.length_drop, List.length_take]; rfl)) ?_; (with_reducible refine (turnstilelaw01_Beyond.calls k _ _ y298 false _ ?side1 ?side2 A3.out).mono ?_); (case side1 => repeat (first | exact (Kd.R_reads' HO300.out).2.2 | (with_reducible refine Kd.C_alloc ?_ _) | (with_reducible refine Kd.C_drewN ?_ _) | (with_reducible refine Kd.C_drew ?_))); (case side2 => exact (Kd.R_reads' HO300.out).2.1); rintro e w' ⟨rfl, ⟨nd, rfl⟩⟩; refine ⟨_, rfl, ?_⟩; have hcz144_0 : w141.cell? ⟨gb296, 0, none⟩ = some (.slice A0_0 l0_0.length c0_0) := (blk_cell BK296.out 0).trans rfl; have hcz144_1 : w141.cell? ⟨gb296, 1, none⟩ = some (.int .i64 a0_1) := (blk_cell BK296.out 1).trans rfl; have hcz144_2 : w141.cell? ⟨gb296, 2, none⟩ = some (.slice A0_2 l0_2.length c0_2) := (blk_cell BK296.out 2).trans rfl; have hfz144_0 := blk_frozen BK296.out 0; have hfz144_1 := blk_frozen BK296.out 1; have hfz144_2 := blk_frozen BK296.out 2) | ((with_reducible refine gate_callee (f := 49) rfl ?_); refine goesL_ (some 19) rfl rfl Try.func49 (by kernel_rfl) rfl #[.agg #[.slice A0_0 l0_0.length c0_0, .int .i64 a0_1, .slice A0_2 l0_2.length c0_2]] rfl (by (try simp only [List.map_toArray, List.map_cons, List.map_nil]); first | done | rfl | (simp only [List.length_drop, List.length_take]; rfl)) ?_; (with_reducible refine (flow_Reach.calls k _ _ l0_0 a0_1 _ _ l0_2 t302 t305 _ ?side1 ?side2 ?side3 ?side4 A11.out).mono ?_); (case side1 => repeat (first | exact (Kd.C_below HR0_0.out (by repeat (first | (with_reducible first | exact HB.out | apply below_alloc | apply pw_below_drewN | apply below_drew1 | refine below_set ?_ GE296.out) | exact HB.out))) | (with_reducible refine Kd.C_alloc ?_ _) | (with_reducible refine Kd.C_drewN ?_ _) | (with_reducible refine Kd.C_drew ?_))); (case side2 => exact HC0_0.out); (case side3 => repeat (first | exact (Kd.C_below HR0_2.out (by repeat (first | (with_reducible first | exact HB.out | apply below_alloc | apply pw_below_drewN | apply below_drew1 | refine below_set ?_ GE296.out) | exact HB.out))) | (with_reducible refine Kd.C_alloc ?_ _) | (with_reducible refine Kd.C_drewN ?_ _) | (with_reducible refine Kd.C_drew ?_))); (case side4 => exact HC0_2.out); rintro e w145 ⟨v303, rfl, ho0, hb⟩; refine ⟨_, rfl, ?_⟩; have n0_ := Aside0.mk (Kd.R_below (by (with_reducible repeat (first | apply Kd.R_alloc | apply Kd.R_drewN | apply Kd.R_drew)); exact HO300.out) hb); have n1_ := Aside0.mk (Kd.R_lower ho0 (below_size (by repeat (first | (with_reducible first | exact HB.out | apply below_alloc | apply pw_below_drewN | apply below_drew1 | refine below_set ?_ GE296.out) | exact HB.out)))); have n2_ := Aside0.mk (blk_below (g := gb296) (o := .cells #[.slice A0_0 l0_0.length c0_0, .int .i64 a0_1, .slice A0_2 l0_2.length c0_2] 25 (0, 0)) (by (with_reducible repeat (first | refine blk_drewN ?_ _ | refine blk_drew ?_ | refine blk_alloc ?_ _)); exact BK296.out) hb); have n3_ := Aside0.mk (below_step (by repeat (first | (with_reducible first | exact HB.out | apply below_alloc | apply pw_below_drewN | apply below_drew1 | refine below_set ?_ GE296.out) | exact HB.out)) hb); clear HO300; clear BK296; clear HB; have HO300 := n0_; have HO304 := n1_; have BK296 := n2_; have HB := n3_; clear n0_ n1_ n2_ n3_; (try clear hb); (try clear hb2); (try clear hk); (try clear hi); (try clear ho0); have hcz146_0 : w145.cell? ⟨gb296, 0, none⟩ = some (.slice A0_0 l0_0.length c0_0) := (blk_cell BK296.out 0).trans rfl; have hcz146_1 : w145.cell? ⟨gb296, 1, none⟩ = some (.int .i64 a0_1) := (blk_cell BK296.out 1).trans rfl; have hcz146_2 : w145.cell? ⟨gb296, 2, none⟩ = some (.slice A0_2 l0_2.length c0_2) := (blk_cell BK296.out 2).trans rfl; have hfz146_0 := blk_frozen BK296.out 0; have hfz146_1 := blk_frozen BK296.out 1; have hfz146_2 := blk_frozen BK296.out 2) | ((with_reducible refine gate_callee (f := 50) rfl ?_); refine goesL_ (some 24) rfl rfl Try.func50 (by kernel_rfl) rfl #[.agg #[.slice A0_0 l0_0.length c0_0, .int .i64 a0_1, .slice A0_2 l0_2.length c0_2]] rfl (by (try simp only [List.map_toArray, List.map_cons, List.map_nil]); first | done | rfl | (simp only [List.length_drop, List.length_take]; rfl)) ?_; (with_reducible refine (flow_Ahead.calls _ _ l0_0 a0_1 _ _ l0_2 t306 t309 _ ?side1 ?side2 ?side3 ?side4 A12.out).mono ?_); (case side1 => repeat (first | exact (Kd.C_below HR0_0.out HB.out) | (with_reducible refine Kd.C_alloc ?_ _) | (with_reducible refine Kd.C_drewN ?_ _) | (with_reducible refine Kd.C_drew ?_))); (case side2 => exact HC0_0.out); (case side3 => repeat (first | exact (Kd.C_below HR0_2.out HB.out) | (with_reducible refine Kd.C_alloc ?_ _) | (with_reducible refine Kd.C_drewN ?_ _) | (with_reducible refine Kd.C_drew ?_))); (case side4 => exact HC0_2.out); rintro e w147 ⟨v307, rfl, ho0, hb⟩; refine ⟨_, rfl, ?_⟩; have n0_ := Aside0.mk (Kd.R_below (by (with_reducible repeat (first | apply Kd.R_alloc | apply Kd.R_drewN | apply Kd.R_drew)); exact HO300.out) hb); have n1_ := Aside0.mk (Kd.R_below (by (with_reducible repeat (first | apply Kd.R_alloc | apply Kd.R_drewN | apply Kd.R_drew)); exact HO304.out) hb); have n2_ := Aside0.mk (Kd.S_lower (Kd.S_new' ho0 (Kd.R_lt (by (with_reducible repeat (first | apply Kd.R_alloc | apply Kd.R_drewN | apply Kd.R_drew)); exact HO300.out))) (below_size (by repeat (first | (with_reducible first | exact HB.out | apply below_alloc | apply pw_below_drewN | apply below_drew1 | refine below_set ?_ GE296.out) | exact HB.out)))); have n3_ := Aside0.mk (blk_below (g := gb296) (o := .cells #[.slice A0_0 l0_0.length c0_0, .int .i64 a0_1, .slice A0_2 l0_2.length c0_2] 25 (0, 0)) (by (with_reducible repeat (first | refine blk_drewN ?_ _ | refine blk_drew ?_ | refine blk_alloc ?_ _)); exact BK296.out) hb); have n4_ := Aside0.mk (below_step (by repeat (first | (with_reducible first | exact HB.out | apply below_alloc | apply pw_below_drewN | apply below_drew1 | refine below_set ?_ GE296.out) | exact HB.out)) hb); clear HO300; clear HO304; clear BK296; clear HB; have HO300 := n0_; have HO304 := n1_; have HO308 := n2_; have BK296 := n3_; have HB := n4_; clear n0_ n1_ n2_ n3_ n4_; (try clear hb); (try clear hb2); (try clear hk); (try clear hi); (try clear ho0); have hcz148_0 : w147.cell? ⟨gb296, 0, none⟩ = some (.slice A0_0 l0_0.length c0_0) := (blk_cell BK296.out 0).trans rfl; have hcz148_1 : w147.cell? ⟨gb296, 1, none⟩ = some (.int .i64 a0_1) := (blk_cell BK296.out 1).trans rfl; have hcz148_2 : w147.cell? ⟨gb296, 2, none⟩ = some (.slice A0_2 l0_2.length c0_2) := (blk_cell BK296.out 2).trans rfl; have hfz148_0 := blk_frozen BK296.out 0; have hfz148_1 := blk_frozen BK296.out 1; have hfz148_2 := blk_frozen BK296.out 2) | ((with_reducible refine gate_callee (f := 51) rfl ?_); refine goesL_ (some 29) rfl rfl Try.func51 (by kernel_rfl) rfl #[.agg #[.slice A0_0 l0_0.length c0_0, .int .i64 a0_1, .slice A0_2 l0_2.length c0_2]] rfl (by (try simp only [List.map_toArray, List.map_cons, List.map_nil]); first | done | rfl | (simp only [List.length_drop, List.length_take]; rfl)) ?_; (with_reducible refine (flow_Dom.calls _ _ l0_0 a0_1 _ _ l0_2 t310 t313 _ ?side1 ?side2 ?side3 ?side4 A13.out).mono ?_); (case side1 => repeat (first | exact (Kd.C_below HR0_0.out HB.out) | (with_reducible refine Kd.C_alloc ?_ _) | (with_reducible refine Kd.C_drewN ?_ _) | (with_reducible refine Kd.C_drew ?_))); (case side2 => exact HC0_0.out); (case side3 => repeat (first | exact (Kd.C_below HR0_2.out HB.out) | (with_reducible refine Kd.C_alloc ?_ _) | (with_reducible refine Kd.C_drewN ?_ _) | (with_reducible refine Kd.C_drew ?_))); (case side4 => exact HC0_2.out); rintro e w149 ⟨v311, rfl, ho0, hb⟩; refine ⟨_, rfl, ?_⟩; have n0_ := Aside0.mk (Kd.R_elder' (by (with_reducible repeat (first | apply Kd.R_alloc | apply Kd.R_drewN | apply Kd.R_drew)); exact HO300.out) (Kd.R_base ho0) hb); have n1_ := Aside0.mk (Kd.R_below (by (with_reducible repeat (first | apply Kd.R_alloc | apply Kd.R_drewN | apply Kd.R_drew)); exact HO304.out) hb); have n2_ := Aside0.mk (Kd.S_elder' (by (with_reducible repeat (first | apply Kd.S_alloc | apply Kd.S_drewN | apply Kd.S_drew)); exact HO308.out) (Kd.R_base ho0) hb); have n3_ := Aside0.mk (Kd.R_lower (Kd.R_new' ho0 (Kd.R_lt (by (with_reducible repeat (first | apply Kd.R_alloc | apply Kd.R_drewN | apply Kd.R_drew)); exact HO300.out))) (below_size (by repeat (first | (with_reducible first | exact HB.out | apply below_alloc | apply pw_below_drewN | apply below_drew1 | refine below_set ?_ GE296.out) | exact HB.out)))); have n4_ := Aside0.mk (blk_below (g := gb296) (o := .cells #[.slice A0_0 l0_0.length c0_0, .int .i64 a0_1, .slice A0_2 l0_2.length c0_2] 25 (0, 0)) (by (with_reducible repeat (first | refine blk_drewN ?_ _ | refine blk_drew ?_ | refine blk_alloc ?_ _)); exact BK296.out) hb); have n5_ := Aside0.mk (below_step (by repeat (first | (with_reducible first | exact HB.out | apply below_alloc | apply pw_below_drewN | apply below_drew1 | refine below_set ?_ GE296.out) | exact HB.out)) hb); clear HO300; clear HO304; clear HO308; clear BK296; clear HB; have HO300 := n0_; have HO304 := n1_; have HO308 := n2_; have HO312 := n3_; have BK296 := n4_; have HB := n5_; clear n0_ n1_ n2_ n3_ n4_ n5_; (try clear hb); (try clear hb2); (try clear hk); (try clear hi); (try clear ho0)))
        go_ret
        exact ⟨by first | rfl | (simp [errW_none, errW_some] <;> rfl) | (simp [*, errW_none, errW_some] <;> rfl), by repeat (first | (with_reducible first | exact HB.out | apply below_alloc | apply pw_below_drewN | apply below_drew1 | refine below_set ?_ GE296.out) | exact HB.out)⟩
end Go.Proofs.Ytjmeignhhheckaa.Q
namespace Go.Proofs.Ytjmeignhhheckaa.H
open Go.RowKit Go.Maps Go.Proofs.YtjmeignhhheckaaW.PrintWords Go.Proofs.YtjmeignhhheckaaW.PrintLast Go.Proofs.Ytjmeignhhheckaa.Q Go.Proofs.Ytjmeignhhheckaa.D
set_option maxRecDepth 100000
section
variable {bs : List S36}
theorem doms_chain (h : FEnv bs) {D' : Nat → Nat} (hr : Rel bs.length (orderS bs).length (orderS bs) (domR bs) (orderS bs).length D') (hT : Tree D' (orderS bs).length) (b : Nat) (hb : b < bs.length) (hrow : 0 < ((ahS bs).getD b []).length) (F : Nat)
    (hn : ∀ k, F ≤ k → turnstilelaw12_FlowDoms.l0 k (reachS bs) (ahS bs) (domF bs) bs.length ((b + 1 : Nat) : Int) = some true) :
    ∀ (f i s k : Nat), i < (orderS bs).length → i ≤ f → s + i ≤ bs.length → F + f + 1 ≤ k → turnstilelaw12_FlowDoms.l1 k (reachS bs) (ahS bs) (domF bs) bs.length (b : Int) ((orderS bs).getD i 0) (s : Int) = some true := by
  have O := h.ord
  intro f
  induction f with
  | zero =>
    intro i s k hi hif hs hk
    obtain rfl : i = 0 := by omega
    obtain ⟨k, rfl⟩ : ∃ m, k = m + 1 := ⟨k - 1, by omega⟩
    simp only [turnstilelaw12_FlowDoms.l1]
    rw [O.zero, if_pos rfl, if_pos (by omega), if_pos (by rw [ahS_len]; omega)]
    have : (rd_L13 (ahS bs) (b : Int)) = (ahS bs).getD b [] := rfl
    rw [this, if_neg (by omega), fstep (by have := h.nb; omega)]
    exact hn k (by omega)
  | succ f ih =>
    intro i s k hi hif hs hk
    by_cases h0 : i = 0
    · exact ih i s k hi (by omega) hs (by omega)
    · obtain ⟨k, rfl⟩ : ∃ m, k = m + 1 := ⟨k - 1, by omega⟩
      have hor := O.rng _ (getD_mem (d := 0) hi)
      have hne : (orderS bs).getD i 0 ≠ 0 := fun e => h0 ((env_of bs h.T h.ne).inj hi O.ne (by rw [e, O.zero]))
      have hd : rd (domF bs) ((orderS bs).getD i 0) = (orderS bs).getD (D' i) 0 := by
        show (domF bs).getD ((orderS bs).getD i 0).toNat 0 = _
        rw [h.dget, if_neg (by omega), hr.yes i hi]
      have hlt := hT i (by omega) hi
      have hd2 := O.rng _ (getD_mem (d := 0) (show D' i < (orderS bs).length by omega))
      have hre : rdOf false (reachS bs) ((orderS bs).getD (D' i) 0) = true := by
        obtain ⟨q, hq⟩ := Int.eq_ofNat_of_zero_le hd2.1
        rw [hq, h.reach q (by omega), ← hq]
        exact decide_eq_true (getD_mem (by omega))
      simp only [turnstilelaw12_FlowDoms.l1]
      have hnb := h.nb
      rw [if_neg hne, if_pos hor.1, if_pos (by rw [h.dlen]; exact hor.2), if_neg (by omega), hd, if_neg (by omega), if_neg (by omega), if_pos hd2.1, if_pos (by rw [h.rlen]; exact hd2.2), if_pos hre, fstep (by omega)]
      exact ih (D' i) (s + 1) k (by omega) (by omega) (by omega) (by omega)
theorem doms_l0 (h : FEnv bs) {D' : Nat → Nat} (hr : Rel bs.length (orderS bs).length (orderS bs) (domR bs) (orderS bs).length D') (hT : Tree D' (orderS bs).length) :
    ∀ (d b k : Nat), b + d = bs.length → 0 < b → d * 6000 + 60 ≤ k → turnstilelaw12_FlowDoms.l0 k (reachS bs) (ahS bs) (domF bs) bs.length (b : Int) = some true := by
  have O := h.ord
  have hnb := h.nb
  intro d
  induction d with
  | zero =>
    intro b k hb h0 hk
    obtain ⟨k, rfl⟩ : ∃ m, k = m + 1 := ⟨k - 1, by omega⟩
    simp only [turnstilelaw12_FlowDoms.l0]
    rw [if_neg (by omega), fl_alive k (by omega)]
    rfl
  | succ d ih =>
    intro b k hb h0 hk
    obtain ⟨k, rfl⟩ : ∃ m, k = m + 1 := ⟨k - 1, by omega⟩
    simp only [turnstilelaw12_FlowDoms.l0]
    have hbl : b < bs.length := by omega
    rw [if_pos (by omega), if_pos (by omega), if_pos (by rw [h.rlen]; omega), h.reach b hbl]
    by_cases hm : (b : Int) ∈ orderS bs
    · rw [decide_eq_true hm, if_pos rfl]
      obtain ⟨i, hi, he⟩ := order_idx hm
      have hi0 : 0 < i := by
        refine Nat.pos_of_ne_zero fun e => ?_
        subst e
        rw [O.zero] at he
        omega
      have hrow := h.rows_yes i hi0 hi
      rw [← he, Int.toNat_natCast] at hrow
      have hol := h.olen
      have := doms_chain h hr hT b hbl hrow (d * 6000 + 60) (fun k hk => ih (b + 1) k (by omega) (by omega) hk) i i 0 k hi (Nat.le_refl _) (by omega) (by omega)
      rw [← he] at this
      exact this
    · rw [decide_eq_false hm, if_neg (by decide), if_pos (by rw [ahS_len]; omega)]
      have h1 : rd_L13 (ahS bs) (b : Int) = [] := by
        show (ahS bs).getD b [] = []
        exact h.rows_no b hm
      have h2 : rd (domF bs) (b : Int) = -1 := by
        show (domF bs).getD b 0 = -1
        rw [h.dget, if_neg (by omega), hr.no b hbl]
        intro i hi e
        have := O.rng _ (getD_mem (d := 0) hi)
        exact hm (by rw [show (b : Int) = (orderS bs).getD i 0 from by omega]; exact getD_mem hi)
      rw [h1, if_neg (by simp), if_pos (by rw [h.dlen]; omega), h2, if_pos rfl, fstep (by omega)]
      exact ih (b + 1) k (by omega) (by omega) (by omega)
end
theorem flowDoms_pure (xs : List Bool) (sites : Int) (bs : List S36) (hs : smallG bs) : ∃ k, turnstilelaw12_FlowDoms.f k xs sites bs = some true := by
  obtain ⟨k0, hk0⟩ := reach_k xs sites bs hs
  obtain ⟨K, hK⟩ : ∃ K, K = k0 + bs.length + 30000000 := ⟨_, rfl⟩
  refine ⟨K, ?_⟩
  unfold turnstilelaw12_FlowDoms.f
  obtain ⟨t, ht⟩ := fsize xs sites bs hs.1 K (by omega)
  rw [ht, Option.bind_some]
  obtain ⟨c, hc⟩ := fbeyond t K (by omega)
  rw [hc, Option.bind_some]
  cases c with
  | true => rw [if_pos rfl]
  | false =>
    rw [if_neg (by decide), hk0 K (by omega), Option.bind_some, ahead_f xs sites bs hs, Option.bind_some, dom_f xs sites bs hs, Option.bind_some]
    dsimp only
    by_cases hE : gE xs sites bs = 0
    · have h := FEnv.of hE
      rw [if_pos hE, if_pos hE, if_pos hE, if_pos hE, if_pos hE, if_pos hE]
      have hr0 : rdOf false (reachS bs) 0 = true := by
        have := h.reach 0 h.ne
        rw [show ((0 : Nat) : Int) = 0 from rfl] at this
        rw [this]
        refine decide_eq_true ?_
        have := getD_mem (d := 0) h.ord.ne
        rwa [h.ord.zero] at this
      have hd0 : rd (domF bs) 0 = -1 := by
        show (domF bs).getD 0 0 = -1
        rw [h.dget, if_pos rfl]
      have hne := h.ne
      have hnb := h.nb
      rw [if_pos (by rw [h.rlen]), if_pos (by rw [ahS_len]), if_pos (by rw [h.dlen]), if_pos (by rw [h.rlen]; omega), if_pos hr0, if_pos (by rw [h.dlen]; omega), hd0]
      obtain ⟨_, D', hr, _, hT, _⟩ := domR_ok bs h.T h.ne
      obtain ⟨K', rfl⟩ : ∃ m, K = m + 1 := ⟨K - 1, by omega⟩
      simp only [turnstilelaw12_FlowDoms.j0]
      rw [if_neg (by decide)]
      exact doms_l0 h hr hT (bs.length - 1) 1 K' (by omega) (by omega) (by omega)
    · rw [if_neg hE, if_pos rfl, if_pos rfl, if_neg hE, if_neg hE, if_neg hE]
      rw [if_pos (by simp [Go.RowKit.wrap64]), fl_alive K (by omega)]
      rfl
end Go.Proofs.Ytjmeignhhheckaa.H
namespace Go.Proofs.Ytjmeignhhheckaa.H
open Go.RowKit Go.Maps Go.Proofs.YtjmeignhhheckaaW.PrintWords Go.Proofs.YtjmeignhhheckaaW.PrintLast Go.Proofs.Ytjmeignhhheckaa.Q
set_option maxRecDepth 100000
section
variable {H : Type} {enc : TypeId × Value → H} {w : World} {base : Nat} {spare : Nat → Bool} {held : Bool}
/-- a slice of whatever elements, opened at once -/
theorem open_C {α : Type} [Inhabited α] (d : Kd α) {t e : TypeId} (R : DataW H → α → Prop) (ht : Try.prog.underlying t = some (.slice e)) (hsz : Try.prog.cellsOf e = d.sz)
    (hel : ∀ (n : Nat) (cs' : List Value) (D : DataW H) (Pl : List MemPlace), cs'.length = d.sz → DataW.trod enc Try.prog w base spare held n e cs' = some (D, Pl) → ∃ x : α, d.K w x cs' ∧ R D x)
    {fuel : Nat} {cs : List Value} {x : DataW H × List MemPlace} (h : DataW.trod enc Try.prog w base spare held fuel t cs = some x) :
    ∃ (A : Option Addr) (c : Nat) (xs : List α), cs = [.slice A xs.length c] ∧ xs.length ≤ c ∧ d.C w A xs.length xs ∧ (xs = [] ∨ ∃ elems spr, x.1 = .slice elems spr ∧ elems.length = xs.length ∧ ∀ p ∈ xs, ∃ D ∈ elems, R D p) := by
  rcases Go.Deep.open_slice ht h with ⟨rfl, rfl⟩ | ⟨a, len, cap, m, n, D, Pl, rfl, hb, hl, hm, hmm, rfl, hi⟩
  · exact ⟨none, 0, [], rfl, Nat.le_refl _, ⟨rfl, Nat.zero_le _, fun h => absurd h (Nat.lt_irrefl _)⟩, .inl rfl⟩
  · have hle : len ≤ m := by rw [hmm]; split <;> omega
    have hx : ∀ i, i < len → ∃ x : α, (∃ cs', w.cells? base (a.add (i * d.sz)) d.sz = some cs' ∧ d.K w x cs') ∧ R (D i) x := by
      intro i hil
      obtain ⟨cs', h1, h2⟩ := hi i (by omega)
      rw [hsz] at h1
      have hc := World.cells?_some h1
      obtain ⟨x, h3, h4⟩ := hel n cs' (D i) (Pl i) hc.2.1 h2
      exact ⟨x, ⟨cs', h1, h3⟩, h4⟩
    obtain ⟨f, hf⟩ := Go.Deep.choose_lt hx
    have hlen : ((List.range len).map f).length = len := by simp
    refine ⟨some a, cap, (List.range len).map f, by rw [hlen], by rw [hlen]; exact hl, ⟨rfl, by rw [hlen]; have := hm; unfold maxLen at this; omega, fun _ => ⟨a, rfl, fun j p hj => ?_⟩⟩, .inr ⟨_, _, rfl, by simp, fun p hp => ?_⟩⟩
    · have hjl : j < len := by
        have := (List.getElem?_eq_some_iff.1 hj).1
        rwa [hlen] at this
      have hpe : p = f j := by
        rw [List.getElem?_map, List.getElem?_range hjl] at hj
        exact (Option.some.inj hj).symm
      subst hpe
      obtain ⟨⟨cs', h1, h2⟩, _⟩ := hf j hjl
      have hc := World.cells?_some h1
      refine ⟨cs', hc.2.1, h2, fun i u hu => ?_⟩
      have hiu := (List.getElem?_eq_some_iff.1 hu).1
      rw [← Go.Deep.add_add, hc.2.2 i (by rw [← hc.2.1]; exact hiu)]
      exact hu
    · rw [List.mem_map] at hp
      obtain ⟨j, hj, rfl⟩ := hp
      have hjl := List.mem_range.1 hj
      exact ⟨D j, List.mem_map.2 ⟨j, hj, rfl⟩, (hf j hjl).2⟩
instance : Inhabited S46 := ⟨z46⟩
instance : Inhabited S36 := ⟨z36⟩
theorem len6 {cs : List Value} (h : cs.length = 6) : ∃ a b c d e f, cs = [a, b, c, d, e, f] := by
  match cs, h with
  | [a, b, c, d, e, f], _ => exact ⟨a, b, c, d, e, f, rfl⟩
theorem len5 {cs : List Value} (h : cs.length = 5) : ∃ a b c d e, cs = [a, b, c, d, e] := by
  match cs, h with
  | [a, b, c, d, e], _ => exact ⟨a, b, c, d, e, rfl⟩
theorem cells46 : Try.prog.cellsOf 46 = 6 := by kernel_rfl
theorem cells36 : Try.prog.cellsOf 36 = 5 := by kernel_rfl
theorem cells43 : Try.prog.cellsOf 43 = 1 := by kernel_rfl
theorem cells44 : Try.prog.cellsOf 44 = 1 := by kernel_rfl
theorem cells34 : Try.prog.cellsOf 34 = 1 := by kernel_rfl
theorem cells33 : Try.prog.cellsOf 33 = 1 := by kernel_rfl
theorem cells3 : Try.prog.cellsOf 3 = 1 := by kernel_rfl
theorem cells2 : Try.prog.cellsOf 2 = 1 := by kernel_rfl
theorem cells4 : Try.prog.cellsOf 4 = 1 := by kernel_rfl
theorem ins_K (n : Nat) (cs : List Value) (D : DataW H) (Pl : List MemPlace) (hl : cs.length = 6) (h : DataW.trod enc Try.prog w base spare held n 46 cs = some (D, Pl)) : ∃ x : S46, k46.K w x cs ∧ True := by
  obtain ⟨c0, c1, c2, c3, c4, c5, rfl⟩ := len6 hl
  obtain ⟨xs, m, _, _, _, hxl, hf⟩ := DataW.trod_struct Try.underlying46 h
  have g0 : DataW.trod enc Try.prog w base spare held m 43 (([c0, c1, c2, c3, c4, c5].drop 0).take (Try.prog.cellsOf 43)) = xs[0]? := hf 0 _ rfl
  have g1 : DataW.trod enc Try.prog w base spare held m 44 (([c0, c1, c2, c3, c4, c5].drop 1).take (Try.prog.cellsOf 44)) = xs[1]? := hf 1 _ rfl
  have g2 : DataW.trod enc Try.prog w base spare held m 3 (([c0, c1, c2, c3, c4, c5].drop 2).take (Try.prog.cellsOf 3)) = xs[2]? := hf 2 _ rfl
  have g3 : DataW.trod enc Try.prog w base spare held m 3 (([c0, c1, c2, c3, c4, c5].drop 3).take (Try.prog.cellsOf 3)) = xs[3]? := hf 3 _ rfl
  have g4 : DataW.trod enc Try.prog w base spare held m 3 (([c0, c1, c2, c3, c4, c5].drop 4).take (Try.prog.cellsOf 3)) = xs[4]? := hf 4 _ rfl
  have g5 : DataW.trod enc Try.prog w base spare held m 2 (([c0, c1, c2, c3, c4, c5].drop 5).take (Try.prog.cellsOf 2)) = xs[5]? := hf 5 _ rfl
  rw [cells43] at g0
  rw [cells44] at g1
  rw [cells3] at g2 g3 g4
  rw [cells2] at g5
  rw [List.getElem?_eq_getElem (by rw [hxl]; decide)] at g0 g1 g2 g3 g4 g5
  obtain ⟨a0, h0, _, _⟩ := DataW.trod_int Try.underlying43 g0
  obtain ⟨a1, h1, _, _⟩ := DataW.trod_int Try.underlying44 g1
  obtain ⟨a2, h2, _, _⟩ := DataW.trod_int Try.underlying3 g2
  obtain ⟨a3, h3, _, _⟩ := DataW.trod_int Try.underlying3 g3
  obtain ⟨a4, h4, _, _⟩ := DataW.trod_int Try.underlying3 g4
  obtain ⟨a5, h5, _, _⟩ := DataW.trod_int Try.underlying2 g5
  simp only [List.drop_zero, List.drop_succ_cons, List.take_succ_cons, List.take_zero, List.cons.injEq, and_true] at h0 h1 h2 h3 h4 h5
  subst h0 h1 h2 h3 h4 h5
  exact ⟨⟨a0, a1, a2, a3, a4, a5⟩, k46_mk w _, trivial⟩
/-- how much a list of instructions weighs -/
def lightI (D : DataW H) (x : S36) : Prop := (∀ n ∈ D.weights Try.prog 36, n ≤ reachBytes) → x.f0.length ≤ 140737488351232
theorem blk_K (n : Nat) (cs : List Value) (D : DataW H) (Pl : List MemPlace) (hl : cs.length = 5) (h : DataW.trod enc Try.prog w base spare held n 36 cs = some (D, Pl)) : ∃ x : S36, k36.K w x cs ∧ lightI D x := by
  obtain ⟨c0, c1, c2, c3, c4, rfl⟩ := len5 hl
  obtain ⟨xs, m, _, hD, _, hxl, hf⟩ := DataW.trod_struct Try.underlying36 h
  have g0 : DataW.trod enc Try.prog w base spare held m 33 (([c0, c1, c2, c3, c4].drop 0).take (Try.prog.cellsOf 33)) = xs[0]? := hf 0 _ rfl
  have g1 : DataW.trod enc Try.prog w base spare held m 34 (([c0, c1, c2, c3, c4].drop 1).take (Try.prog.cellsOf 34)) = xs[1]? := hf 1 _ rfl
  have g2 : DataW.trod enc Try.prog w base spare held m 3 (([c0, c1, c2, c3, c4].drop 2).take (Try.prog.cellsOf 3)) = xs[2]? := hf 2 _ rfl
  have g3 : DataW.trod enc Try.prog w base spare held m 3 (([c0, c1, c2, c3, c4].drop 3).take (Try.prog.cellsOf 3)) = xs[3]? := hf 3 _ rfl
  have g4 : DataW.trod enc Try.prog w base spare held m 3 (([c0, c1, c2, c3, c4].drop 4).take (Try.prog.cellsOf 3)) = xs[4]? := hf 4 _ rfl
  rw [cells33] at g0
  rw [cells34] at g1
  rw [cells3] at g2 g3 g4
  have hx5 : ∃ x0 x1 x2 x3 x4, xs = [x0, x1, x2, x3, x4] := by
    match xs, hxl with
    | [a, b, c, d, e], _ => exact ⟨a, b, c, d, e, rfl⟩
  obtain ⟨x0, x1, x2, x3, x4, rfl⟩ := hx5
  obtain ⟨A, c, is, h0, hc0, hC, hw⟩ := open_C k46 (fun _ _ => True) Try.underlying33 (cells46.trans rfl) (fun n cs' D Pl hl h => ins_K n cs' D Pl hl h) g0
  obtain ⟨a1, h1, _, _⟩ := DataW.trod_int Try.underlying34 g1
  obtain ⟨a2, h2, _, _⟩ := DataW.trod_int Try.underlying3 g2
  obtain ⟨a3, h3, _, _⟩ := DataW.trod_int Try.underlying3 g3
  obtain ⟨a4, h4, _, _⟩ := DataW.trod_int Try.underlying3 g4
  simp only [List.drop_zero, List.drop_succ_cons, List.take_succ_cons, List.take_zero, List.cons.injEq, and_true] at h0 h1 h2 h3 h4
  subst h0 h1 h2 h3 h4
  refine ⟨⟨is, a1, a2, a3, a4⟩, k36_mk w ⟨is, a1, a2, a3, a4⟩ hc0 hC, fun hwt => ?_⟩
  rcases hw with rfl | ⟨elems, spr, he, hle, _⟩
  · exact Nat.zero_le _
  · have hD1 := congrArg Prod.fst hD
    dsimp only at hD1
    subst hD1
    have hb : Try.prog.bytesOf 46 = 40 := by kernel_rfl
    have := hwt ((elems.length + spr.length) * 40) (by
      simp only [DataW.weights, Try.underlying36, List.map_cons, List.map_nil]
      simp [DataW.weightsEach, DataW.weights, he, Try.underlying33, hb])
    have hr := reachBytes_lt
    show is.length ≤ _
    omega
theorem weights_in {P : Program} {e : TypeId} {n : Nat} {D : DataW H} : ∀ {l : List (DataW H)}, D ∈ l → n ∈ D.weights P e → n ∈ DataW.weightsAll P e l := by
  intro l
  induction l with
  | nil => intro h; cases h
  | cons a l ih =>
    intro h hn
    rw [DataW.weightsAll, List.mem_append]
    rcases List.mem_cons.1 h with rfl | h
    · exact .inl hn
    · exact .inr (ih h hn)
theorem bool_K (n : Nat) (cs : List Value) (D : DataW H) (Pl : List MemPlace) (hl : cs.length = 1) (h : DataW.trod enc Try.prog w base spare held n 4 cs = some (D, Pl)) : ∃ x : Bool, Kd.bool.K w x cs ∧ True := by
  obtain ⟨b, rfl, _⟩ := DataW.trod_bool Try.underlying4 h
  exact ⟨b, rfl, trivial⟩
/-- a graph by value -/
theorem graph_open {r : Reach} {b0 : Nat} {v : Value} {d : DataW H} {p : List MemPlace} (hv : Value.okWide Try.prog w r b0 25 v) (h : DataW.Trod enc Try.prog w base spare held 25 v d p) (hw : ∀ n ∈ d.weights Try.prog 25, n ≤ reachBytes) :
    ∃ (A0 : Option Addr) (c0 : Nat) (l0 : List Bool) (a1 : Int) (A2 : Option Addr) (c2 : Nat) (l2 : List S36), v = .agg #[.slice A0 l0.length c0, .int .i64 a1, .slice A2 l2.length c2] ∧ Kd.C Kd.bool w A0 l0.length l0 ∧ l0.length ≤ c0 ∧ Kd.C k36 w A2 l2.length l2 ∧ l2.length ≤ c2 ∧ smallG l2 := by
  obtain ⟨v0, v1, v2, y0, y1, y2, n, rfl, rfl, _, h0, h1, h2⟩ := Go.Joins.open_agg3 Try.underlying25 (by kernel_rfl) (by kernel_rfl) hv h
  obtain ⟨A0, c0, l0, e0, hc0, hC0, _⟩ := open_C Kd.bool (fun _ _ => True) Try.underlying22 (cells4.trans rfl) (fun n cs' D Pl hl h => bool_K n cs' D Pl hl h) h0
  obtain ⟨a1, e1, _, _⟩ := DataW.trod_int Try.underlying3 h1
  obtain ⟨A2, c2, l2, e2, hc2, hC2, hl2⟩ := open_C k36 lightI Try.underlying23 (cells36.trans rfl) (fun n cs' D Pl hl h => blk_K n cs' D Pl hl h) h2
  simp only [List.cons.injEq, and_true] at e0 e1 e2
  subst e0 e1 e2
  refine ⟨A0, c0, l0, a1, A2, c2, l2, rfl, hC0, hc0, hC2, hc2, ?_⟩
  rcases hl2 with rfl | ⟨elems, spr, he, hle, hx⟩
  · exact ⟨Nat.zero_le _, fun x hx => by cases hx⟩
  · have hb : Try.prog.bytesOf 36 = 56 := by kernel_rfl
    have hin : ∀ n ∈ (y2.1).weights Try.prog 23, n ≤ reachBytes := fun n hn => hw n (by
      simp only [DataW.weights, Try.underlying25, List.map_cons, List.map_nil]
      simp [DataW.weightsEach, hn])
    rw [he] at hin
    simp only [DataW.weights, Try.underlying23] at hin
    have hr := reachBytes_lt
    have hrb : reachBytes = 140737488351232 := rfl
    constructor
    · have := hin ((elems.length + spr.length) * 56) (by rw [hb]; exact List.mem_cons_self)
      omega
    · intro x hxm
      obtain ⟨D, hD, hl⟩ := hx x hxm
      exact hl (fun n hn => hin n (List.mem_cons_of_mem _ (List.mem_append_left _ (weights_in hD hn))))
end
end Go.Proofs.Ytjmeignhhheckaa.H

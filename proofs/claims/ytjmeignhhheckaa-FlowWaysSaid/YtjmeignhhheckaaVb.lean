/- Part 2 behind the shared texts: contracts of the functions that are reached, and the plain law. -/
import Derived.Test.YtjmeignhhheckaaVa
import Derived.Deep.Slices
import Derived.Lib.SmallJoins
import Derived.SizedLaws
import Derived.Carry
import Derived.ProofKit
import Derived.OpenShut
import Derived.ShutString
import Derived.ChangeOld
set_option linter.unusedVariables false
set_option linter.unusedSimpArgs false
namespace Go.Proofs.Ytjmeignhhheckaa.Q
open Go.RowKit Go.Proofs.YtjmeignhhheckaaW.PrintWords Go.Proofs.YtjmeignhhheckaaW.PrintLast Go.Proofs.YtjmeignhhheckaaW.PrintMore
attribute [local go_sem] max2_int min2_int max_two min_two max_three min_three max_four min_four   -- for this text's walks alone
set_option linter.unusedVariables false
set_option linter.unusedSimpArgs false
set_option maxHeartbeats 8000000 in
set_option maxRecDepth 100000 in
theorem turnstilelaw12_FlowWays.calls (k : Nat) (A0_0 : Option Addr) (c0_0 : Nat) (l0_0 : List Bool) (a0_1 : Int) (A0_2 : Option Addr) (c0_2 : Nat) (l0_2 : List (S36)) (A1 : Option Addr) (c1 : Nat) (l1 : List Int) (r : Bool) (w : World) (hr0_0 : Kd.C Kd.bool w A0_0 l0_0.length l0_0) (hc0_0 : l0_0.length ≤ c0_0) (hr0_2 : Kd.C k36 w A0_2 l0_2.length l0_2) (hc0_2 : l0_2.length ≤ c0_2) (hr1 : Kd.C (Kd.int .i64) w A1 l1.length l1) (hc1 : l1.length ≤ c1) (h : turnstilelaw12_FlowWays.f k l0_0 a0_1 l0_2 l1 = some r) :
  Calls Try.prog 12 #[.agg #[.slice A0_0 l0_0.length c0_0, .int .i64 a0_1, .slice A0_2 l0_2.length c0_2], .slice A1 l1.length c1] w fun e w' => e = .returned (.bool r) ∧ Below w.heap.size w w' := by
 have hu25 := Try.underlying25
 have hu36 := Try.underlying36
 have HR0_0 := Aside0.mk hr0_0
 have HC0_0 := Aside0.mk hc0_0
 clear hr0_0 hc0_0
 have HR0_2 := Aside0.mk hr0_2
 have HC0_2 := Aside0.mk hc0_2
 clear hr0_2 hc0_2
 have HR1 := Aside0.mk hr1
 have HC1 := Aside0.mk hc1
 clear hr1 hc1
 have HB := Aside0.mk (Below.refl w.heap.size w)
 have H : ((turnstilelaw01_GraphSize.f k l0_0 a0_1 l0_2).bind fun t340 => ((turnstilelaw01_Beyond.f k (([t340] : List Int))).bind fun t344 => (if t344 = true then (some true) else ((flow_Reach.f k l0_0 a0_1 l0_2).bind fun bt345 => ((flow_Ahead.f l0_0 a0_1 l0_2).bind fun bt349 => ((flow_Dom.f l0_0 a0_1 l0_2).bind fun bt353 => ((flow_Inside.f l0_0 a0_1 l0_2).bind fun bt357 => (if bt345.2 = 0 then (if (bt345.1.length : Int) = (l0_2.length : Int) then (if (bt357.1.length : Int) = (bt345.1.length : Int) then (if (bt353.1.length : Int) = (bt345.1.length : Int) then (turnstilelaw12_FlowWays.j0 k l1 bt345.1 bt349.1 bt353.1 bt357.1 ((bt345.1.length : Int) == 0) l0_0 a0_1 l0_2) else (turnstilelaw12_FlowWays.j0 k l1 bt345.1 bt349.1 bt353.1 bt357.1 true l0_0 a0_1 l0_2)) else (turnstilelaw12_FlowWays.j0 k l1 bt345.1 bt349.1 bt353.1 bt357.1 true l0_0 a0_1 l0_2)) else (turnstilelaw12_FlowWays.j0 k l1 bt345.1 bt349.1 bt353.1 bt357.1 true l0_0 a0_1 l0_2)) else ((turnstilelaw12_alive.f k).bind fun t361 => (some t361)))))))))) = some r := h
 clear h
 replace H := Option.bind_eq_some_iff.mp H
 obtain ⟨t340, A30, H⟩ := H
 replace H : ((turnstilelaw01_Beyond.f k (([t340] : List Int))).bind fun t344 => (if t344 = true then (some true) else ((flow_Reach.f k l0_0 a0_1 l0_2).bind fun bt345 => ((flow_Ahead.f l0_0 a0_1 l0_2).bind fun bt349 => ((flow_Dom.f l0_0 a0_1 l0_2).bind fun bt353 => ((flow_Inside.f l0_0 a0_1 l0_2).bind fun bt357 => (if bt345.2 = 0 then (if (bt345.1.length : Int) = (l0_2.length : Int) then (if (bt357.1.length : Int) = (bt345.1.length : Int) then (if (bt353.1.length : Int) = (bt345.1.length : Int) then (turnstilelaw12_FlowWays.j0 k l1 bt345.1 bt349.1 bt353.1 bt357.1 ((bt345.1.length : Int) == 0) l0_0 a0_1 l0_2) else (turnstilelaw12_FlowWays.j0 k l1 bt345.1 bt349.1 bt353.1 bt357.1 true l0_0 a0_1 l0_2)) else (turnstilelaw12_FlowWays.j0 k l1 bt345.1 bt349.1 bt353.1 bt357.1 true l0_0 a0_1 l0_2)) else (turnstilelaw12_FlowWays.j0 k l1 bt345.1 bt349.1 bt353.1 bt357.1 true l0_0 a0_1 l0_2)) else ((turnstilelaw12_alive.f k).bind fun t361 => (some t361))))))))) = some r := H
 have A3 := Aside0.mk A30
 clear A30
 obtain ⟨y341, hy341⟩ : ∃ y_ : List Int, y_ = (([t340] : List Int)) := ⟨_, rfl⟩
 replace H : ((turnstilelaw01_Beyond.f k y341).bind fun t344 => (if t344 = true then (some true) else ((flow_Reach.f k l0_0 a0_1 l0_2).bind fun bt345 => ((flow_Ahead.f l0_0 a0_1 l0_2).bind fun bt349 => ((flow_Dom.f l0_0 a0_1 l0_2).bind fun bt353 => ((flow_Inside.f l0_0 a0_1 l0_2).bind fun bt357 => (if bt345.2 = 0 then (if (bt345.1.length : Int) = (l0_2.length : Int) then (if (bt357.1.length : Int) = (bt345.1.length : Int) then (if (bt353.1.length : Int) = (bt345.1.length : Int) then (turnstilelaw12_FlowWays.j0 k l1 bt345.1 bt349.1 bt353.1 bt357.1 ((bt345.1.length : Int) == 0) l0_0 a0_1 l0_2) else (turnstilelaw12_FlowWays.j0 k l1 bt345.1 bt349.1 bt353.1 bt357.1 true l0_0 a0_1 l0_2)) else (turnstilelaw12_FlowWays.j0 k l1 bt345.1 bt349.1 bt353.1 bt357.1 true l0_0 a0_1 l0_2)) else (turnstilelaw12_FlowWays.j0 k l1 bt345.1 bt349.1 bt353.1 bt357.1 true l0_0 a0_1 l0_2)) else ((turnstilelaw12_alive.f k).bind fun t361 => (some t361))))))))) = some r := by first | (rw [hy341]; with_reducible exact H) | (have H2_ := (Option.bind_some _ _).symm.trans H; rw [hy341]; with_reducible exact H2_) | (have H2_ := (Option.bind_some _ _).symm.trans H; with_reducible exact H2_) | with_reducible exact H | (rw [hy341]; exact H) | exact H
 have Ny341 := Aside0.mk hy341
 clear hy341
 replace H := Option.bind_eq_some_iff.mp H
 obtain ⟨t344, A40, H⟩ := H
 replace H : (if t344 = true then (some true) else ((flow_Reach.f k l0_0 a0_1 l0_2).bind fun bt345 => ((flow_Ahead.f l0_0 a0_1 l0_2).bind fun bt349 => ((flow_Dom.f l0_0 a0_1 l0_2).bind fun bt353 => ((flow_Inside.f l0_0 a0_1 l0_2).bind fun bt357 => (if bt345.2 = 0 then (if (bt345.1.length : Int) = (l0_2.length : Int) then (if (bt357.1.length : Int) = (bt345.1.length : Int) then (if (bt353.1.length : Int) = (bt345.1.length : Int) then (turnstilelaw12_FlowWays.j0 k l1 bt345.1 bt349.1 bt353.1 bt357.1 ((bt345.1.length : Int) == 0) l0_0 a0_1 l0_2) else (turnstilelaw12_FlowWays.j0 k l1 bt345.1 bt349.1 bt353.1 bt357.1 true l0_0 a0_1 l0_2)) else (turnstilelaw12_FlowWays.j0 k l1 bt345.1 bt349.1 bt353.1 bt357.1 true l0_0 a0_1 l0_2)) else (turnstilelaw12_FlowWays.j0 k l1 bt345.1 bt349.1 bt353.1 bt357.1 true l0_0 a0_1 l0_2)) else ((turnstilelaw12_alive.f k).bind fun t361 => (some t361)))))))) = some r := H
 have A4 := Aside0.mk A40
 clear A40
 by_cases c5 : t344 = true
 ·
  subst c5
  have H1 : (some true) = some r := by rw [if_pos rfl] at H; exact H
  clear H
  have H := H1
  clear H1
  obtain rfl := Option.some.inj H
  go_enter Try.func12, Try.ntmps12
  go_wp2_with (first | ((with_reducible refine gate_dst (N := 2) rfl ?_); (try (refine gate_guard (by rfl) ?_; dsimp only)); refine box_event ?hg (N := 2) ?hd (cs := #[.slice A0_0 l0_0.length c0_0, .int .i64 a0_1, .slice A0_2 l0_2.length c0_2]) (t := 25) ?hr ?_; (case hd => rfl); (case hg => rfl); (case hr => first | (go_simp; done) | (go_simp; rfl)); intro gb339 hg w6 hbox hb; have n0_ := Aside0.mk (below_step (by repeat (first | (with_reducible first | exact HB.out | apply below_alloc | apply pw_below_drewN | apply below_drew1) | exact HB.out)) hb); have n1_ := Aside0.mk (hbox); have n2_ := Aside0.mk ((by rw [hg]; exact (below_size (by repeat (first | (with_reducible first | exact HB.out | apply below_alloc | apply pw_below_drewN | apply below_drew1) | exact HB.out))) : w.heap.size ≤ gb339)); have n3_ := Aside0.mk ((by rw [hg]; exact (below_size (by repeat (first | (with_reducible first | exact HB.out | apply below_alloc | apply pw_below_drewN | apply below_drew1) | exact HB.out))) : w.heap.size ≤ gb339)); clear HB; have HB := n0_; have BK339 := n1_; have GW339 := n2_; have GE339 := n3_; clear n0_ n1_ n2_ n3_; clear hb hbox hg; have hcz7_0 : w6.cell? ⟨gb339, 0, none⟩ = some (.slice A0_0 l0_0.length c0_0) := (blk_cell BK339.out 0).trans rfl; have hcz7_1 : w6.cell? ⟨gb339, 1, none⟩ = some (.int .i64 a0_1) := (blk_cell BK339.out 1).trans rfl; have hcz7_2 : w6.cell? ⟨gb339, 2, none⟩ = some (.slice A0_2 l0_2.length c0_2) := (blk_cell BK339.out 2).trans rfl; have hfz7_0 := blk_frozen BK339.out 0; have hfz7_1 := blk_frozen BK339.out 1; have hfz7_2 := blk_frozen BK339.out 2) | ((with_reducible refine gate_callee (f := 14) rfl ?_); refine goesL_ (some 23) rfl rfl Try.func14 (by kernel_rfl) rfl #[.agg #[.slice A0_0 l0_0.length c0_0, .int .i64 a0_1, .slice A0_2 l0_2.length c0_2]] rfl (by (try simp only [List.map_toArray, List.map_cons, List.map_nil]); first | done | rfl | (simp only [List.length_drop, List.length_take]; rfl)) ?_; (with_reducible refine (turnstilelaw01_GraphSize.calls k _ _ l0_0 a0_1 _ _ l0_2 t340 _ ?side1 ?side2 ?side3 ?side4 A3.out).mono ?_); (case side1 => repeat (first | exact (Kd.C_below HR0_0.out HB.out) | (with_reducible refine Kd.C_alloc ?_ _) | (with_reducible refine Kd.C_drewN ?_ _) | (with_reducible refine Kd.C_drew ?_))); (case side2 => exact HC0_0.out); (case side3 => repeat (first | exact (Kd.C_below HR0_2.out HB.out) | (with_reducible refine Kd.C_alloc ?_ _) | (with_reducible refine Kd.C_drewN ?_ _) | (with_reducible refine Kd.C_drew ?_))); (case side4 => exact HC0_2.out); rintro e w8 ⟨rfl, hb⟩; refine ⟨_, rfl, ?_⟩; have n0_ := Aside0.mk (blk_below (g := gb339) (o := .cells #[.slice A0_0 l0_0.length c0_0, .int .i64 a0_1, .slice A0_2 l0_2.length c0_2] 25 (0, 0)) (by (with_reducible repeat (first | refine blk_drewN ?_ _ | refine blk_drew ?_ | refine blk_alloc ?_ _)); exact BK339.out) hb); have n1_ := Aside0.mk (below_step (by repeat (first | (with_reducible first | exact HB.out | apply below_alloc | apply pw_below_drewN | apply below_drew1 | refine below_set ?_ GE339.out) | exact HB.out)) hb); clear BK339; clear HB; have BK339 := n0_; have HB := n1_; clear n0_ n1_; (try clear hb); (try clear hb2); (try clear hk); (try clear hi)) | ((with_reducible refine gate_dst (N := 24) rfl ?_); (try (refine gate_guard (by rfl) ?_; dsimp only)); refine Kd.R_lit (Kd.int .i64) _ 3 ?hg (N := 24) ?hd (xs := ([t340] : List Int)) (inner := [.int .i64 t340]) (ok := fun _ => True) (okp := fun _ => True) ?hr ?hp (fun _ hk => hk) trivial (Below.refl _ _) (Nat.le_refl _) (by simp) ?_; (case hd => rfl); (case hg => rfl); (case hr => first | (go_simp; done) | (go_simp; rfl)); (case hp => exact (Reps.one (show Kd.M (Kd.int .i64) _ _ _ t340 [.int .i64 t340] from rfl) (Reps.none _ _))); intro v342 w9 ho10 hb hg_ hnew_; clear hg_ hnew_; (first | rw [← Ny341.out] at ho10 | (simp only [Int.reduceToNat] at ho10; rw [← Ny341.out] at ho10)); have n0_ := Aside0.mk (Kd.R_lower ho10 (below_size (by repeat (first | (with_reducible first | exact HB.out | apply below_alloc | apply pw_below_drewN | apply below_drew1 | refine below_set ?_ GE339.out) | exact HB.out)))); have n1_ := Aside0.mk (blk_below (g := gb339) (o := .cells #[.slice A0_0 l0_0.length c0_0, .int .i64 a0_1, .slice A0_2 l0_2.length c0_2] 25 (0, 0)) (by (with_reducible repeat (first | refine blk_drewN ?_ _ | refine blk_drew ?_ | refine blk_alloc ?_ _)); exact BK339.out) hb); have n2_ := Aside0.mk (below_step (by repeat (first | (with_reducible first | exact HB.out | apply below_alloc | apply pw_below_drewN | apply below_drew1 | refine below_set ?_ GE339.out) | exact HB.out)) hb); clear BK339; clear HB; have HO343 := n0_; have BK339 := n1_; have HB := n2_; clear n0_ n1_ n2_; clear hb ho10; obtain ⟨Ao11, co11, eo11⟩ := Kd.R_slice HO343.out; subst eo11) | ((with_reducible refine gate_callee (f := 13) rfl ?_); refine goesL_ (some 25) rfl rfl Try.func13 (by kernel_rfl) rfl #[.slice Ao11 y341.length co11] rfl (by (try simp only [List.map_toArray, List.map_cons, List.map_nil]); first | done | rfl | (simp only [List.length_drop, List.length_take]; rfl)) ?_; (with_reducible refine (turnstilelaw01_Beyond.calls k _ _ y341 true _ ?side1 ?side2 A4.out).mono ?_); (case side1 => repeat (first | exact (Kd.R_reads' HO343.out).2.2 | (with_reducible refine Kd.C_alloc ?_ _) | (with_reducible refine Kd.C_drewN ?_ _) | (with_reducible refine Kd.C_drew ?_))); (case side2 => exact (Kd.R_reads' HO343.out).2.1); rintro e w' ⟨rfl, ⟨nd, rfl⟩⟩; refine ⟨_, rfl, ?_⟩))
  go_ret
  exact ⟨by first | rfl | (simp [errW_none, errW_some] <;> rfl) | (simp [*, errW_none, errW_some] <;> rfl), by repeat (first | (with_reducible first | exact HB.out | apply below_alloc | apply pw_below_drewN | apply below_drew1 | refine below_set ?_ GE339.out) | exact HB.out)⟩
 ·
  replace c5 := Bool.eq_false_iff.mpr c5
  subst c5
  have H1 : ((flow_Reach.f k l0_0 a0_1 l0_2).bind fun bt345 => ((flow_Ahead.f l0_0 a0_1 l0_2).bind fun bt349 => ((flow_Dom.f l0_0 a0_1 l0_2).bind fun bt353 => ((flow_Inside.f l0_0 a0_1 l0_2).bind fun bt357 => (if bt345.2 = 0 then (if (bt345.1.length : Int) = (l0_2.length : Int) then (if (bt357.1.length : Int) = (bt345.1.length : Int) then (if (bt353.1.length : Int) = (bt345.1.length : Int) then (turnstilelaw12_FlowWays.j0 k l1 bt345.1 bt349.1 bt353.1 bt357.1 ((bt345.1.length : Int) == 0) l0_0 a0_1 l0_2) else (turnstilelaw12_FlowWays.j0 k l1 bt345.1 bt349.1 bt353.1 bt357.1 true l0_0 a0_1 l0_2)) else (turnstilelaw12_FlowWays.j0 k l1 bt345.1 bt349.1 bt353.1 bt357.1 true l0_0 a0_1 l0_2)) else (turnstilelaw12_FlowWays.j0 k l1 bt345.1 bt349.1 bt353.1 bt357.1 true l0_0 a0_1 l0_2)) else ((turnstilelaw12_alive.f k).bind fun t361 => (some t361))))))) = some r := by rw [if_neg (show ¬ (false = true) by decide)] at H; exact H
  clear H
  have H := H1
  clear H1
  replace H := Option.bind_eq_some_iff.mp H
  obtain ⟨⟨t345, t348⟩, A120, H⟩ := H
  replace H : ((flow_Ahead.f l0_0 a0_1 l0_2).bind fun bt349 => ((flow_Dom.f l0_0 a0_1 l0_2).bind fun bt353 => ((flow_Inside.f l0_0 a0_1 l0_2).bind fun bt357 => (if t348 = 0 then (if (t345.length : Int) = (l0_2.length : Int) then (if (bt357.1.length : Int) = (t345.length : Int) then (if (bt353.1.length : Int) = (t345.length : Int) then (turnstilelaw12_FlowWays.j0 k l1 t345 bt349.1 bt353.1 bt357.1 ((t345.length : Int) == 0) l0_0 a0_1 l0_2) else (turnstilelaw12_FlowWays.j0 k l1 t345 bt349.1 bt353.1 bt357.1 true l0_0 a0_1 l0_2)) else (turnstilelaw12_FlowWays.j0 k l1 t345 bt349.1 bt353.1 bt357.1 true l0_0 a0_1 l0_2)) else (turnstilelaw12_FlowWays.j0 k l1 t345 bt349.1 bt353.1 bt357.1 true l0_0 a0_1 l0_2)) else ((turnstilelaw12_alive.f k).bind fun t361 => (some t361)))))) = some r := H
  have A12 := Aside0.mk A120
  clear A120
  replace H := Option.bind_eq_some_iff.mp H
  obtain ⟨⟨t349, t352⟩, A130, H⟩ := H
  replace H : ((flow_Dom.f l0_0 a0_1 l0_2).bind fun bt353 => ((flow_Inside.f l0_0 a0_1 l0_2).bind fun bt357 => (if t348 = 0 then (if (t345.length : Int) = (l0_2.length : Int) then (if (bt357.1.length : Int) = (t345.length : Int) then (if (bt353.1.length : Int) = (t345.length : Int) then (turnstilelaw12_FlowWays.j0 k l1 t345 t349 bt353.1 bt357.1 ((t345.length : Int) == 0) l0_0 a0_1 l0_2) else (turnstilelaw12_FlowWays.j0 k l1 t345 t349 bt353.1 bt357.1 true l0_0 a0_1 l0_2)) else (turnstilelaw12_FlowWays.j0 k l1 t345 t349 bt353.1 bt357.1 true l0_0 a0_1 l0_2)) else (turnstilelaw12_FlowWays.j0 k l1 t345 t349 bt353.1 bt357.1 true l0_0 a0_1 l0_2)) else ((turnstilelaw12_alive.f k).bind fun t361 => (some t361))))) = some r := H
  have A13 := Aside0.mk A130
  clear A130
  replace H := Option.bind_eq_some_iff.mp H
  obtain ⟨⟨t353, t356⟩, A140, H⟩ := H
  replace H : ((flow_Inside.f l0_0 a0_1 l0_2).bind fun bt357 => (if t348 = 0 then (if (t345.length : Int) = (l0_2.length : Int) then (if (bt357.1.length : Int) = (t345.length : Int) then (if (t353.length : Int) = (t345.length : Int) then (turnstilelaw12_FlowWays.j0 k l1 t345 t349 t353 bt357.1 ((t345.length : Int) == 0) l0_0 a0_1 l0_2) else (turnstilelaw12_FlowWays.j0 k l1 t345 t349 t353 bt357.1 true l0_0 a0_1 l0_2)) else (turnstilelaw12_FlowWays.j0 k l1 t345 t349 t353 bt357.1 true l0_0 a0_1 l0_2)) else (turnstilelaw12_FlowWays.j0 k l1 t345 t349 t353 bt357.1 true l0_0 a0_1 l0_2)) else ((turnstilelaw12_alive.f k).bind fun t361 => (some t361)))) = some r := H
  have A14 := Aside0.mk A140
  clear A140
  replace H := Option.bind_eq_some_iff.mp H
  obtain ⟨⟨t357, t360⟩, A150, H⟩ := H
  replace H : (if t348 = 0 then (if (t345.length : Int) = (l0_2.length : Int) then (if (t357.length : Int) = (t345.length : Int) then (if (t353.length : Int) = (t345.length : Int) then (turnstilelaw12_FlowWays.j0 k l1 t345 t349 t353 t357 ((t345.length : Int) == 0) l0_0 a0_1 l0_2) else (turnstilelaw12_FlowWays.j0 k l1 t345 t349 t353 t357 true l0_0 a0_1 l0_2)) else (turnstilelaw12_FlowWays.j0 k l1 t345 t349 t353 t357 true l0_0 a0_1 l0_2)) else (turnstilelaw12_FlowWays.j0 k l1 t345 t349 t353 t357 true l0_0 a0_1 l0_2)) else ((turnstilelaw12_alive.f k).bind fun t361 => (some t361))) = some r := H
  have A15 := Aside0.mk A150
  clear A150
  by_cases c16 : t348 = 0
  ·
   rw [if_pos c16] at H
   have c16b0 : (t348 == 0) = true := beq_iff_eq.mpr c16
   have c16b1 : (t348 != 0) = false := bne_eq_false_iff_eq.mpr c16
   clear c16
   have HC17 := Aside0.mk H
   clear H
   go_enter Try.func12, Try.ntmps12
   go_upto_region 9 with (first | ((with_reducible refine gate_dst (N := 2) rfl ?_); (try (refine gate_guard (by rfl) ?_; dsimp only)); refine box_event ?hg (N := 2) ?hd (cs := #[.slice A0_0 l0_0.length c0_0, .int .i64 a0_1, .slice A0_2 l0_2.length c0_2]) (t := 25) ?hr ?_; (case hd => rfl); (case hg => rfl); (case hr => first | (go_simp; done) | (go_simp; rfl)); intro gb339 hg w18 hbox hb; have n0_ := Aside0.mk (below_step (by repeat (first | (with_reducible first | exact HB.out | apply below_alloc | apply pw_below_drewN | apply below_drew1) | exact HB.out)) hb); have n1_ := Aside0.mk (hbox); have n2_ := Aside0.mk ((by rw [hg]; exact (below_size (by repeat (first | (with_reducible first | exact HB.out | apply below_alloc | apply pw_below_drewN | apply below_drew1) | exact HB.out))) : w.heap.size ≤ gb339)); have n3_ := Aside0.mk ((by rw [hg]; exact (below_size (by repeat (first | (with_reducible first | exact HB.out | apply below_alloc | apply pw_below_drewN | apply below_drew1) | exact HB.out))) : w.heap.size ≤ gb339)); clear HB; have HB := n0_; have BK339 := n1_; have GW339 := n2_; have GE339 := n3_; clear n0_ n1_ n2_ n3_; clear hb hbox hg; have hcz19_0 : w18.cell? ⟨gb339, 0, none⟩ = some (.slice A0_0 l0_0.length c0_0) := (blk_cell BK339.out 0).trans rfl; have hcz19_1 : w18.cell? ⟨gb339, 1, none⟩ = some (.int .i64 a0_1) := (blk_cell BK339.out 1).trans rfl; have hcz19_2 : w18.cell? ⟨gb339, 2, none⟩ = some (.slice A0_2 l0_2.length c0_2) := (blk_cell BK339.out 2).trans rfl; have hfz19_0 := blk_frozen BK339.out 0; have hfz19_1 := blk_frozen BK339.out 1; have hfz19_2 := blk_frozen BK339.out 2) | ((with_reducible refine gate_callee (f := 14) rfl ?_); refine goesL_ (some 23) rfl rfl Try.func14 (by kernel_rfl) rfl #[.agg #[.slice A0_0 l0_0.length c0_0, .int .i64 a0_1, .slice A0_2 l0_2.length c0_2]] rfl (by (try simp only [List.map_toArray, List.map_cons, List.map_nil]); first | done | rfl | (simp only [List.length_drop, List.length_take]; rfl)) ?_; (with_reducible refine (turnstilelaw01_GraphSize.calls k _ _ l0_0 a0_1 _ _ l0_2 t340 _ ?side1 ?side2 ?side3 ?side4 A3.out).mono ?_); (case side1 => repeat (first | exact (Kd.C_below HR0_0.out HB.out) | (with_reducible refine Kd.C_alloc ?_ _) | (with_reducible refine Kd.C_drewN ?_ _) | (with_reducible refine Kd.C_drew ?_))); (case side2 => exact HC0_0.out); (case side3 => repeat (first | exact (Kd.C_below HR0_2.out HB.out) | (with_reducible refine Kd.C_alloc ?_ _) | (with_reducible refine Kd.C_drewN ?_ _) | (with_reducible refine Kd.C_drew ?_))); (case side4 => exact HC0_2.out); rintro e w20 ⟨rfl, hb⟩; refine ⟨_, rfl, ?_⟩; have n0_ := Aside0.mk (blk_below (g := gb339) (o := .cells #[.slice A0_0 l0_0.length c0_0, .int .i64 a0_1, .slice A0_2 l0_2.length c0_2] 25 (0, 0)) (by (with_reducible repeat (first | refine blk_drewN ?_ _ | refine blk_drew ?_ | refine blk_alloc ?_ _)); exact BK339.out) hb); have n1_ := Aside0.mk (below_step (by repeat (first | (with_reducible first | exact HB.out | apply below_alloc | apply pw_below_drewN | apply below_drew1 | refine below_set ?_ GE339.out) | exact HB.out)) hb); clear BK339; clear HB; have BK339 := n0_; have HB := n1_; clear n0_ n1_; (try clear hb); (try clear hb2); (try clear hk); (try clear hi)) | ((with_reducible refine gate_dst (N := 24) rfl ?_); (try (refine gate_guard (by rfl) ?_; dsimp only)); refine Kd.R_lit (Kd.int .i64) _ 3 ?hg (N := 24) ?hd (xs := ([t340] : List Int)) (inner := [.int .i64 t340]) (ok := fun _ => True) (okp := fun _ => True) ?hr ?hp (fun _ hk => hk) trivial (Below.refl _ _) (Nat.le_refl _) (by simp) ?_; (case hd => rfl); (case hg => rfl); (case hr => first | (go_simp; done) | (go_simp; rfl)); (case hp => exact (Reps.one (show Kd.M (Kd.int .i64) _ _ _ t340 [.int .i64 t340] from rfl) (Reps.none _ _))); intro v342 w21 ho22 hb hg_ hnew_; clear hg_ hnew_; (first | rw [← Ny341.out] at ho22 | (simp only [Int.reduceToNat] at ho22; rw [← Ny341.out] at ho22)); have n0_ := Aside0.mk (Kd.R_lower ho22 (below_size (by repeat (first | (with_reducible first | exact HB.out | apply below_alloc | apply pw_below_drewN | apply below_drew1 | refine below_set ?_ GE339.out) | exact HB.out)))); have n1_ := Aside0.mk (blk_below (g := gb339) (o := .cells #[.slice A0_0 l0_0.length c0_0, .int .i64 a0_1, .slice A0_2 l0_2.length c0_2] 25 (0, 0)) (by (with_reducible repeat (first | refine blk_drewN ?_ _ | refine blk_drew ?_ | refine blk_alloc ?_ _)); exact BK339.out) hb); have n2_ := Aside0.mk (below_step (by repeat (first | (with_reducible first | exact HB.out | apply below_alloc | apply pw_below_drewN | apply below_drew1 | refine below_set ?_ GE339.out) | exact HB.out)) hb); clear BK339; clear HB; have HO343 := n0_; have BK339 := n1_; have HB := n2_; clear n0_ n1_ n2_; clear hb ho22; obtain ⟨Ao23, co23, eo23⟩ := Kd.R_slice HO343.out; subst eo23) | ((with_reducible refine gate_callee (f := 13) rfl ?_); refine goesL_ (some 25) rfl rfl Try.func13 (by kernel_rfl) rfl #[.slice Ao23 y341.length co23] rfl (by (try simp only [List.map_toArray, List.map_cons, List.map_nil]); first | done | rfl | (simp only [List.length_drop, List.length_take]; rfl)) ?_; (with_reducible refine (turnstilelaw01_Beyond.calls k _ _ y341 false _ ?side1 ?side2 A4.out).mono ?_); (case side1 => repeat (first | exact (Kd.R_reads' HO343.out).2.2 | (with_reducible refine Kd.C_alloc ?_ _) | (with_reducible refine Kd.C_drewN ?_ _) | (with_reducible refine Kd.C_drew ?_))); (case side2 => exact (Kd.R_reads' HO343.out).2.1); rintro e w' ⟨rfl, ⟨nd, rfl⟩⟩; refine ⟨_, rfl, ?_⟩; have hcz24_0 : w21.cell? ⟨gb339, 0, none⟩ = some (.slice A0_0 l0_0.length c0_0) := (blk_cell BK339.out 0).trans rfl; have hcz24_1 : w21.cell? ⟨gb339, 1, none⟩ = some (.int .i64 a0_1) := (blk_cell BK339.out 1).trans rfl; have hcz24_2 : w21.cell? ⟨gb339, 2, none⟩ = some (.slice A0_2 l0_2.length c0_2) := (blk_cell BK339.out 2).trans rfl; have hfz24_0 := blk_frozen BK339.out 0; have hfz24_1 := blk_frozen BK339.out 1; have hfz24_2 := blk_frozen BK339.out 2) | ((with_reducible refine gate_callee (f := 49) rfl ?_); refine goesL_ (some 28) rfl rfl Try.func49 (by kernel_rfl) rfl #[.agg #[.slice A0_0 l0_0.length c0_0, .int .i64 a0_1, .slice A0_2 l0_2.length c0_2]] rfl (by (try simp only [List.map_toArray, List.map_cons, List.map_nil]); first | done | rfl | (simp only [List.length_drop, List.length_take]; rfl)) ?_; (with_reducible refine (flow_Reach.calls k _ _ l0_0 a0_1 _ _ l0_2 t345 t348 _ ?side1 ?side2 ?side3 ?side4 A12.out).mono ?_); (case side1 => repeat (first | exact (Kd.C_below HR0_0.out (by repeat (first | (with_reducible first | exact HB.out | apply below_alloc | apply pw_below_drewN | apply below_drew1 | refine below_set ?_ GE339.out) | exact HB.out))) | (with_reducible refine Kd.C_alloc ?_ _) | (with_reducible refine Kd.C_drewN ?_ _) | (with_reducible refine Kd.C_drew ?_))); (case side2 => exact HC0_0.out); (case side3 => repeat (first | exact (Kd.C_below HR0_2.out (by repeat (first | (with_reducible first | exact HB.out | apply below_alloc | apply pw_below_drewN | apply below_drew1 | refine below_set ?_ GE339.out) | exact HB.out))) | (with_reducible refine Kd.C_alloc ?_ _) | (with_reducible refine Kd.C_drewN ?_ _) | (with_reducible refine Kd.C_drew ?_))); (case side4 => exact HC0_2.out); rintro e w25 ⟨v346, rfl, ho0, hb⟩; refine ⟨_, rfl, ?_⟩; have n0_ := Aside0.mk (Kd.R_below (by (with_reducible repeat (first | apply Kd.R_alloc | apply Kd.R_drewN | apply Kd.R_drew)); exact HO343.out) hb); have n1_ := Aside0.mk (Kd.R_lower ho0 (below_size (by repeat (first | (with_reducible first | exact HB.out | apply below_alloc | apply pw_below_drewN | apply below_drew1 | refine below_set ?_ GE339.out) | exact HB.out)))); have n2_ := Aside0.mk (blk_below (g := gb339) (o := .cells #[.slice A0_0 l0_0.length c0_0, .int .i64 a0_1, .slice A0_2 l0_2.length c0_2] 25 (0, 0)) (by (with_reducible repeat (first | refine blk_drewN ?_ _ | refine blk_drew ?_ | refine blk_alloc ?_ _)); exact BK339.out) hb); have n3_ := Aside0.mk (below_step (by repeat (first | (with_reducible first | exact HB.out | apply below_alloc | apply pw_below_drewN | apply below_drew1 | refine below_set ?_ GE339.out) | exact HB.out)) hb); clear HO343; clear BK339; clear HB; have HO343 := n0_; have HO347 := n1_; have BK339 := n2_; have HB := n3_; clear n0_ n1_ n2_ n3_; (try clear hb); (try clear hb2); (try clear hk); (try clear hi); (try clear ho0); have hcz26_0 : w25.cell? ⟨gb339, 0, none⟩ = some (.slice A0_0 l0_0.length c0_0) := (blk_cell BK339.out 0).trans rfl; have hcz26_1 : w25.cell? ⟨gb339, 1, none⟩ = some (.int .i64 a0_1) := (blk_cell BK339.out 1).trans rfl; have hcz26_2 : w25.cell? ⟨gb339, 2, none⟩ = some (.slice A0_2 l0_2.length c0_2) := (blk_cell BK339.out 2).trans rfl; have hfz26_0 := blk_frozen BK339.out 0; have hfz26_1 := blk_frozen BK339.out 1; have hfz26_2 := blk_frozen BK339.out 2) | ((with_reducible refine gate_callee (f := 50) rfl ?_); refine goesL_ (some 33) rfl rfl Try.func50 (by kernel_rfl) rfl #[.agg #[.slice A0_0 l0_0.length c0_0, .int .i64 a0_1, .slice A0_2 l0_2.length c0_2]] rfl (by (try simp only [List.map_toArray, List.map_cons, List.map_nil]); first | done | rfl | (simp only [List.length_drop, List.length_take]; rfl)) ?_; (with_reducible refine (flow_Ahead.calls _ _ l0_0 a0_1 _ _ l0_2 t349 t352 _ ?side1 ?side2 ?side3 ?side4 A13.out).mono ?_); (case side1 => repeat (first | exact (Kd.C_below HR0_0.out HB.out) | (with_reducible refine Kd.C_alloc ?_ _) | (with_reducible refine Kd.C_drewN ?_ _) | (with_reducible refine Kd.C_drew ?_))); (case side2 => exact HC0_0.out); (case side3 => repeat (first | exact (Kd.C_below HR0_2.out HB.out) | (with_reducible refine Kd.C_alloc ?_ _) | (with_reducible refine Kd.C_drewN ?_ _) | (with_reducible refine Kd.C_drew ?_))); (case side4 => exact HC0_2.out); rintro e w27 ⟨v350, rfl, ho0, hb⟩; refine ⟨_, rfl, ?_⟩; have n0_ := Aside0.mk (Kd.R_below (by (with_reducible repeat (first | apply Kd.R_alloc | apply Kd.R_drewN | apply Kd.R_drew)); exact HO343.out) hb); have n1_ := Aside0.mk (Kd.R_below (by (with_reducible repeat (first | apply Kd.R_alloc | apply Kd.R_drewN | apply Kd.R_drew)); exact HO347.out) hb); have n2_ := Aside0.mk (Kd.S_lower (Kd.S_new' ho0 (Kd.R_lt (by (with_reducible repeat (first | apply Kd.R_alloc | apply Kd.R_drewN | apply Kd.R_drew)); exact HO343.out))) (below_size (by repeat (first | (with_reducible first | exact HB.out | apply below_alloc | apply pw_below_drewN | apply below_drew1 | refine below_set ?_ GE339.out) | exact HB.out)))); have n3_ := Aside0.mk (blk_below (g := gb339) (o := .cells #[.slice A0_0 l0_0.length c0_0, .int .i64 a0_1, .slice A0_2 l0_2.length c0_2] 25 (0, 0)) (by (with_reducible repeat (first | refine blk_drewN ?_ _ | refine blk_drew ?_ | refine blk_alloc ?_ _)); exact BK339.out) hb); have n4_ := Aside0.mk (below_step (by repeat (first | (with_reducible first | exact HB.out | apply below_alloc | apply pw_below_drewN | apply below_drew1 | refine below_set ?_ GE339.out) | exact HB.out)) hb); clear HO343; clear HO347; clear BK339; clear HB; have HO343 := n0_; have HO347 := n1_; have HO351 := n2_; have BK339 := n3_; have HB := n4_; clear n0_ n1_ n2_ n3_ n4_; (try clear hb); (try clear hb2); (try clear hk); (try clear hi); (try clear ho0); have hcz28_0 : w27.cell? ⟨gb339, 0, none⟩ = some (.slice A0_0 l0_0.length c0_0) := (blk_cell BK339.out 0).trans rfl; have hcz28_1 : w27.cell? ⟨gb339, 1, none⟩ = some (.int .i64 a0_1) := (blk_cell BK339.out 1).trans rfl; have hcz28_2 : w27.cell? ⟨gb339, 2, none⟩ = some (.slice A0_2 l0_2.length c0_2) := (blk_cell BK339.out 2).trans rfl; have hfz28_0 := blk_frozen BK339.out 0; have hfz28_1 := blk_frozen BK339.out 1; have hfz28_2 := blk_frozen BK339.out 2) | ((with_reducible refine gate_callee (f := 51) rfl ?_); refine goesL_ (some 38) rfl rfl Try.func51 (by kernel_rfl) rfl #[.agg #[.slice A0_0 l0_0.length c0_0, .int .i64 a0_1, .slice A0_2 l0_2.length c0_2]] rfl (by (try simp only [List.map_toArray, List.map_cons, List.map_nil]); first | done | rfl | (simp only [List.length_drop, List.length_take]; rfl)) ?_; (with_reducible refine (flow_Dom.calls _ _ l0_0 a0_1 _ _ l0_2 t353 t356 _ ?side1 ?side2 ?side3 ?side4 A14.out).mono ?_); (case side1 => repeat (first | exact (Kd.C_below HR0_0.out HB.out) | (with_reducible refine Kd.C_alloc ?_ _) | (with_reducible refine Kd.C_drewN ?_ _) | (with_reducible refine Kd.C_drew ?_))); (case side2 => exact HC0_0.out); (case side3 => repeat (first | exact (Kd.C_below HR0_2.out HB.out) | (with_reducible refine Kd.C_alloc ?_ _) | (with_reducible refine Kd.C_drewN ?_ _) | (with_reducible refine Kd.C_drew ?_))); (case side4 => exact HC0_2.out); rintro e w29 ⟨v354, rfl, ho0, hb⟩; refine ⟨_, rfl, ?_⟩; have n0_ := Aside0.mk (Kd.R_elder' (by (with_reducible repeat (first | apply Kd.R_alloc | apply Kd.R_drewN | apply Kd.R_drew)); exact HO343.out) (Kd.R_base ho0) hb); have n1_ := Aside0.mk (Kd.R_below (by (with_reducible repeat (first | apply Kd.R_alloc | apply Kd.R_drewN | apply Kd.R_drew)); exact HO347.out) hb); have n2_ := Aside0.mk (Kd.S_elder' (by (with_reducible repeat (first | apply Kd.S_alloc | apply Kd.S_drewN | apply Kd.S_drew)); exact HO351.out) (Kd.R_base ho0) hb); have n3_ := Aside0.mk (Kd.R_lower (Kd.R_new' ho0 (Kd.R_lt (by (with_reducible repeat (first | apply Kd.R_alloc | apply Kd.R_drewN | apply Kd.R_drew)); exact HO343.out))) (below_size (by repeat (first | (with_reducible first | exact HB.out | apply below_alloc | apply pw_below_drewN | apply below_drew1 | refine below_set ?_ GE339.out) | exact HB.out)))); have n4_ := Aside0.mk (blk_below (g := gb339) (o := .cells #[.slice A0_0 l0_0.length c0_0, .int .i64 a0_1, .slice A0_2 l0_2.length c0_2] 25 (0, 0)) (by (with_reducible repeat (first | refine blk_drewN ?_ _ | refine blk_drew ?_ | refine blk_alloc ?_ _)); exact BK339.out) hb); have n5_ := Aside0.mk (below_step (by repeat (first | (with_reducible first | exact HB.out | apply below_alloc | apply pw_below_drewN | apply below_drew1 | refine below_set ?_ GE339.out) | exact HB.out)) hb); clear HO343; clear HO347; clear HO351; clear BK339; clear HB; have HO343 := n0_; have HO347 := n1_; have HO351 := n2_; have HO355 := n3_; have BK339 := n4_; have HB := n5_; clear n0_ n1_ n2_ n3_ n4_ n5_; (try clear hb); (try clear hb2); (try clear hk); (try clear hi); (try clear ho0); have hcz30_0 : w29.cell? ⟨gb339, 0, none⟩ = some (.slice A0_0 l0_0.length c0_0) := (blk_cell BK339.out 0).trans rfl; have hcz30_1 : w29.cell? ⟨gb339, 1, none⟩ = some (.int .i64 a0_1) := (blk_cell BK339.out 1).trans rfl; have hcz30_2 : w29.cell? ⟨gb339, 2, none⟩ = some (.slice A0_2 l0_2.length c0_2) := (blk_cell BK339.out 2).trans rfl; have hfz30_0 := blk_frozen BK339.out 0; have hfz30_1 := blk_frozen BK339.out 1; have hfz30_2 := blk_frozen BK339.out 2) | ((with_reducible refine gate_callee (f := 53) rfl ?_); refine goesL_ (some 43) rfl rfl Try.func53 (by kernel_rfl) rfl #[.agg #[.slice A0_0 l0_0.length c0_0, .int .i64 a0_1, .slice A0_2 l0_2.length c0_2]] rfl (by (try simp only [List.map_toArray, List.map_cons, List.map_nil]); first | done | rfl | (simp only [List.length_drop, List.length_take]; rfl)) ?_; (with_reducible refine (flow_Inside.calls _ _ l0_0 a0_1 _ _ l0_2 t357 t360 _ ?side1 ?side2 ?side3 ?side4 A15.out).mono ?_); (case side1 => repeat (first | exact (Kd.C_below HR0_0.out HB.out) | (with_reducible refine Kd.C_alloc ?_ _) | (with_reducible refine Kd.C_drewN ?_ _) | (with_reducible refine Kd.C_drew ?_))); (case side2 => exact HC0_0.out); (case side3 => repeat (first | exact (Kd.C_below HR0_2.out HB.out) | (with_reducible refine Kd.C_alloc ?_ _) | (with_reducible refine Kd.C_drewN ?_ _) | (with_reducible refine Kd.C_drew ?_))); (case side4 => exact HC0_2.out); rintro e w31 ⟨v358, rfl, ho0, hb⟩; refine ⟨_, rfl, ?_⟩; have n0_ := Aside0.mk (Kd.R_below (by (with_reducible repeat (first | apply Kd.R_alloc | apply Kd.R_drewN | apply Kd.R_drew)); exact HO343.out) hb); have n1_ := Aside0.mk (Kd.R_elder' (by (with_reducible repeat (first | apply Kd.R_alloc | apply Kd.R_drewN | apply Kd.R_drew)); exact HO347.out) (Kd.R_base ho0) hb); have n2_ := Aside0.mk (Kd.S_below (by (with_reducible repeat (first | apply Kd.S_alloc | apply Kd.S_drewN | apply Kd.S_drew)); exact HO351.out) hb); have n3_ := Aside0.mk (Kd.R_below (by (with_reducible repeat (first | apply Kd.R_alloc | apply Kd.R_drewN | apply Kd.R_drew)); exact HO355.out) hb); have n4_ := Aside0.mk (Kd.R_lower (Kd.R_new' ho0 (Kd.R_lt (by (with_reducible repeat (first | apply Kd.R_alloc | apply Kd.R_drewN | apply Kd.R_drew)); exact HO347.out))) (below_size (by repeat (first | (with_reducible first | exact HB.out | apply below_alloc | apply pw_below_drewN | apply below_drew1 | refine below_set ?_ GE339.out) | exact HB.out)))); have n5_ := Aside0.mk (blk_below (g := gb339) (o := .cells #[.slice A0_0 l0_0.length c0_0, .int .i64 a0_1, .slice A0_2 l0_2.length c0_2] 25 (0, 0)) (by (with_reducible repeat (first | refine blk_drewN ?_ _ | refine blk_drew ?_ | refine blk_alloc ?_ _)); exact BK339.out) hb); have n6_ := Aside0.mk (below_step (by repeat (first | (with_reducible first | exact HB.out | apply below_alloc | apply pw_below_drewN | apply below_drew1 | refine below_set ?_ GE339.out) | exact HB.out)) hb); clear HO343; clear HO347; clear HO351; clear HO355; clear BK339; clear HB; have HO343 := n0_; have HO347 := n1_; have HO351 := n2_; have HO355 := n3_; have HO359 := n4_; have BK339 := n5_; have HB := n6_; clear n0_ n1_ n2_ n3_ n4_ n5_ n6_; (try clear hb); (try clear hb2); (try clear hk); (try clear hi); (try clear ho0)))
   (try simp only [Act.put, List.setIfInBounds_toArray, List.set_cons_zero, List.set_cons_succ])
   go_cut [73] (fun v73 wc => ∃ (kq : Nat) (x73_16 : Bool), v73 = .bool x73_16 ∧ Aside0 (turnstilelaw12_FlowWays.j0 kq l1 t345 t349 t353 t357 x73_16 l0_0 a0_1 l0_2 = some r) ∧ Aside0 (kq ≤ k) ∧ Aside0 (Kd.R Kd.bool 4 wc w.heap.size (fun k_ => some k_ ≠ (v358 : Value).ownBlock) v346 t345) ∧ Aside0 (Kd.S (Kd.slice 3 (Kd.int .i64)) 37 wc w.heap.size (fun k_ => some k_ ≠ (v354 : Value).ownBlock) v350 t349) ∧ Aside0 (Kd.R (Kd.int .i64) 3 wc w.heap.size (fun _ => True) v354 t353) ∧ Aside0 (Kd.R Kd.bool 4 wc w.heap.size (fun k_ => some k_ ≠ (v346 : Value).ownBlock) v358 t357) ∧ Aside0 (wc.heap[gb339]? = some (.cells #[(.slice A0_0 l0_0.length c0_0), .int .i64 a0_1, (.slice A0_2 l0_2.length c0_2)] 25 (0, 0))) ∧ Aside0 (Below w.heap.size w wc))
   case first =>
    as_aux_lemma =>
     have H := HC17.out
     clear HC17
     by_cases c32 : (t345.length : Int) = (l0_2.length : Int)
     ·
      rw [if_pos c32] at H
      have c32b0 : ((t345.length : Int) == (l0_2.length : Int)) = true := beq_iff_eq.mpr c32
      have c32b1 : ((t345.length : Int) != (l0_2.length : Int)) = false := bne_eq_false_iff_eq.mpr c32
      have c32b2 : (t345.length == l0_2.length) = true := by first | simpa using c32 | (simp at c32 ⊢; omega)
      clear c32
      (first | rw [c32b0] | (simp only [i64_w, i32_w]; rw [c32b0]) | skip)
      by_cases c33 : (t357.length : Int) = (t345.length : Int)
      ·
       rw [if_pos c33] at H
       have c33b0 : ((t357.length : Int) == (t345.length : Int)) = true := beq_iff_eq.mpr c33
       have c33b1 : ((t357.length : Int) != (t345.length : Int)) = false := bne_eq_false_iff_eq.mpr c33
       have c33b2 : (t357.length == t345.length) = true := by first | simpa using c33 | (simp at c33 ⊢; omega)
       clear c33
       by_cases c34 : (t353.length : Int) = (t345.length : Int)
       ·
        rw [if_pos c34] at H
        have c34b0 : ((t353.length : Int) == (t345.length : Int)) = true := beq_iff_eq.mpr c34
        have c34b1 : ((t353.length : Int) != (t345.length : Int)) = false := bne_eq_false_iff_eq.mpr c34
        have c34b2 : (t353.length == t345.length) = true := by first | simpa using c34 | (simp at c34 ⊢; omega)
        clear c34
        have H' := Aside0.mk H
        clear H
        obtain ⟨Ao35, co35, eo35⟩ := Kd.R_slice HO347.out
        subst eo35
        have hcz36_0 : w31.cell? ⟨gb339, 0, none⟩ = some (.slice A0_0 l0_0.length c0_0) := (blk_cell BK339.out 0).trans rfl
        have hcz36_1 : w31.cell? ⟨gb339, 1, none⟩ = some (.int .i64 a0_1) := (blk_cell BK339.out 1).trans rfl
        have hcz36_2 : w31.cell? ⟨gb339, 2, none⟩ = some (.slice A0_2 l0_2.length c0_2) := (blk_cell BK339.out 2).trans rfl
        have hfz36_0 := blk_frozen BK339.out 0
        have hfz36_1 := blk_frozen BK339.out 1
        have hfz36_2 := blk_frozen BK339.out 2
        obtain ⟨Ao37, co37, eo37⟩ := Kd.R_slice HO359.out
        subst eo37
        obtain ⟨Ao38, co38, eo38⟩ := Kd.R_slice HO355.out
        subst eo38
        go_wp2
        go_meet
        case rel => exact ⟨_, (((t345.length : Int) == 0)), (by first | rfl | (simp; done) | (simp [*]; done)), H', ⟨by first | omega | exact Nat.le_refl _⟩, ⟨by (with_reducible repeat (first | apply Kd.R_alloc | apply Kd.R_drewN | apply Kd.R_drew)); exact Kd.R_mono HO347.out (fun _ hk => hk.2)⟩, ⟨by (with_reducible repeat (first | apply Kd.S_alloc | apply Kd.S_drewN | apply Kd.S_drew)); exact Kd.S_mono HO351.out (fun _ hk => hk.2)⟩, ⟨by (with_reducible repeat (first | apply Kd.R_alloc | apply Kd.R_drewN | apply Kd.R_drew)); exact Kd.R_mono HO355.out (fun _ hk => trivial)⟩, ⟨by (with_reducible repeat (first | apply Kd.R_alloc | apply Kd.R_drewN | apply Kd.R_drew)); exact Kd.R_mono HO359.out (fun _ hk => hk.2)⟩, ⟨by (with_reducible repeat (first | refine blk_drewN ?_ _ | refine blk_drew ?_ | refine blk_alloc ?_ _)); exact BK339.out⟩, ⟨by repeat (first | (with_reducible first | exact HB.out | apply below_alloc | apply pw_below_drewN | apply below_drew1 | refine below_set ?_ GE339.out) | exact HB.out)⟩⟩
       ·
        rw [if_neg c34] at H
        have c34b0 : ((t353.length : Int) == (t345.length : Int)) = false := beq_eq_false_iff_ne.mpr c34
        have c34b1 : ((t353.length : Int) != (t345.length : Int)) = true := bne_iff_ne.mpr c34
        have c34b2 : (t353.length == t345.length) = false := by first | simpa using c34 | (simp at c34 ⊢; omega)
        have H' := Aside0.mk H
        clear H
        obtain ⟨Ao39, co39, eo39⟩ := Kd.R_slice HO347.out
        subst eo39
        have hcz40_0 : w31.cell? ⟨gb339, 0, none⟩ = some (.slice A0_0 l0_0.length c0_0) := (blk_cell BK339.out 0).trans rfl
        have hcz40_1 : w31.cell? ⟨gb339, 1, none⟩ = some (.int .i64 a0_1) := (blk_cell BK339.out 1).trans rfl
        have hcz40_2 : w31.cell? ⟨gb339, 2, none⟩ = some (.slice A0_2 l0_2.length c0_2) := (blk_cell BK339.out 2).trans rfl
        have hfz40_0 := blk_frozen BK339.out 0
        have hfz40_1 := blk_frozen BK339.out 1
        have hfz40_2 := blk_frozen BK339.out 2
        obtain ⟨Ao41, co41, eo41⟩ := Kd.R_slice HO359.out
        subst eo41
        obtain ⟨Ao42, co42, eo42⟩ := Kd.R_slice HO355.out
        subst eo42
        go_wp2
        go_meet
        case rel => exact ⟨_, (true), (by first | rfl | (simp; done) | (simp [*]; done)), H', ⟨by first | omega | exact Nat.le_refl _⟩, ⟨by (with_reducible repeat (first | apply Kd.R_alloc | apply Kd.R_drewN | apply Kd.R_drew)); exact Kd.R_mono HO347.out (fun _ hk => hk.2)⟩, ⟨by (with_reducible repeat (first | apply Kd.S_alloc | apply Kd.S_drewN | apply Kd.S_drew)); exact Kd.S_mono HO351.out (fun _ hk => hk.2)⟩, ⟨by (with_reducible repeat (first | apply Kd.R_alloc | apply Kd.R_drewN | apply Kd.R_drew)); exact Kd.R_mono HO355.out (fun _ hk => trivial)⟩, ⟨by (with_reducible repeat (first | apply Kd.R_alloc | apply Kd.R_drewN | apply Kd.R_drew)); exact Kd.R_mono HO359.out (fun _ hk => hk.2)⟩, ⟨by (with_reducible repeat (first | refine blk_drewN ?_ _ | refine blk_drew ?_ | refine blk_alloc ?_ _)); exact BK339.out⟩, ⟨by repeat (first | (with_reducible first | exact HB.out | apply below_alloc | apply pw_below_drewN | apply below_drew1 | refine below_set ?_ GE339.out) | exact HB.out)⟩⟩
      ·
       rw [if_neg c33] at H
       have c33b0 : ((t357.length : Int) == (t345.length : Int)) = false := beq_eq_false_iff_ne.mpr c33
       have c33b1 : ((t357.length : Int) != (t345.length : Int)) = true := bne_iff_ne.mpr c33
       have c33b2 : (t357.length == t345.length) = false := by first | simpa using c33 | (simp at c33 ⊢; omega)
       have H' := Aside0.mk H
       clear H
       obtain ⟨Ao43, co43, eo43⟩ := Kd.R_slice HO347.out
       subst eo43
       have hcz44_0 : w31.cell? ⟨gb339, 0, none⟩ = some (.slice A0_0 l0_0.length c0_0) := (blk_cell BK339.out 0).trans rfl
       have hcz44_1 : w31.cell? ⟨gb339, 1, none⟩ = some (.int .i64 a0_1) := (blk_cell BK339.out 1).trans rfl
       have hcz44_2 : w31.cell? ⟨gb339, 2, none⟩ = some (.slice A0_2 l0_2.length c0_2) := (blk_cell BK339.out 2).trans rfl
       have hfz44_0 := blk_frozen BK339.out 0
       have hfz44_1 := blk_frozen BK339.out 1
       have hfz44_2 := blk_frozen BK339.out 2
       obtain ⟨Ao45, co45, eo45⟩ := Kd.R_slice HO359.out
       subst eo45
       go_wp2
       go_meet
       case rel => exact ⟨_, (true), (by first | rfl | (simp; done) | (simp [*]; done)), H', ⟨by first | omega | exact Nat.le_refl _⟩, ⟨by (with_reducible repeat (first | apply Kd.R_alloc | apply Kd.R_drewN | apply Kd.R_drew)); exact Kd.R_mono HO347.out (fun _ hk => hk.2)⟩, ⟨by (with_reducible repeat (first | apply Kd.S_alloc | apply Kd.S_drewN | apply Kd.S_drew)); exact Kd.S_mono HO351.out (fun _ hk => hk.2)⟩, ⟨by (with_reducible repeat (first | apply Kd.R_alloc | apply Kd.R_drewN | apply Kd.R_drew)); exact Kd.R_mono HO355.out (fun _ hk => trivial)⟩, ⟨by (with_reducible repeat (first | apply Kd.R_alloc | apply Kd.R_drewN | apply Kd.R_drew)); exact Kd.R_mono HO359.out (fun _ hk => hk.2)⟩, ⟨by (with_reducible repeat (first | refine blk_drewN ?_ _ | refine blk_drew ?_ | refine blk_alloc ?_ _)); exact BK339.out⟩, ⟨by repeat (first | (with_reducible first | exact HB.out | apply below_alloc | apply pw_below_drewN | apply below_drew1 | refine below_set ?_ GE339.out) | exact HB.out)⟩⟩
     ·
      rw [if_neg c32] at H
      have c32b0 : ((t345.length : Int) == (l0_2.length : Int)) = false := beq_eq_false_iff_ne.mpr c32
      have c32b1 : ((t345.length : Int) != (l0_2.length : Int)) = true := bne_iff_ne.mpr c32
      have c32b2 : (t345.length == l0_2.length) = false := by first | simpa using c32 | (simp at c32 ⊢; omega)
      (first | rw [c32b0] | (simp only [i64_w, i32_w]; rw [c32b0]) | skip)
      have H' := Aside0.mk H
      clear H
      obtain ⟨Ao46, co46, eo46⟩ := Kd.R_slice HO347.out
      subst eo46
      have hcz47_0 : w31.cell? ⟨gb339, 0, none⟩ = some (.slice A0_0 l0_0.length c0_0) := (blk_cell BK339.out 0).trans rfl
      have hcz47_1 : w31.cell? ⟨gb339, 1, none⟩ = some (.int .i64 a0_1) := (blk_cell BK339.out 1).trans rfl
      have hcz47_2 : w31.cell? ⟨gb339, 2, none⟩ = some (.slice A0_2 l0_2.length c0_2) := (blk_cell BK339.out 2).trans rfl
      have hfz47_0 := blk_frozen BK339.out 0
      have hfz47_1 := blk_frozen BK339.out 1
      have hfz47_2 := blk_frozen BK339.out 2
      go_wp2
      go_meet
      case rel => exact ⟨_, (true), (by first | rfl | (simp; done) | (simp [*]; done)), H', ⟨by first | omega | exact Nat.le_refl _⟩, ⟨by (with_reducible repeat (first | apply Kd.R_alloc | apply Kd.R_drewN | apply Kd.R_drew)); exact Kd.R_mono HO347.out (fun _ hk => hk.2)⟩, ⟨by (with_reducible repeat (first | apply Kd.S_alloc | apply Kd.S_drewN | apply Kd.S_drew)); exact Kd.S_mono HO351.out (fun _ hk => hk.2)⟩, ⟨by (with_reducible repeat (first | apply Kd.R_alloc | apply Kd.R_drewN | apply Kd.R_drew)); exact Kd.R_mono HO355.out (fun _ hk => trivial)⟩, ⟨by (with_reducible repeat (first | apply Kd.R_alloc | apply Kd.R_drewN | apply Kd.R_drew)); exact Kd.R_mono HO359.out (fun _ hk => hk.2)⟩, ⟨by (with_reducible repeat (first | refine blk_drewN ?_ _ | refine blk_drew ?_ | refine blk_alloc ?_ _)); exact BK339.out⟩, ⟨by repeat (first | (with_reducible first | exact HB.out | apply below_alloc | apply pw_below_drewN | apply below_drew1 | refine below_set ?_ GE339.out) | exact HB.out)⟩⟩
   case rest =>
    clear HC17
    try clear c1
    try clear p2
    try clear c3
    try clear c4
    try clear c5
    try clear c12
    try clear c13
    try clear c14
    try clear c16
    try clear c16b0
    try clear c16b1
    try clear c32
    try clear c32b0
    try clear c32b1
    try clear c32b2
    try clear c33
    try clear c33b0
    try clear c33b1
    try clear c33b2
    try clear c34
    try clear c34b0
    try clear c34b1
    try clear c34b2
    try clear hcz19_0
    try clear hcz19_1
    try clear hcz19_2
    try clear hcz24_0
    try clear hcz24_1
    try clear hcz24_2
    try clear hcz26_0
    try clear hcz26_1
    try clear hcz26_2
    try clear hcz28_0
    try clear hcz28_1
    try clear hcz28_2
    try clear hcz30_0
    try clear hcz30_1
    try clear hcz30_2
    try clear hcz36_0
    try clear hcz36_1
    try clear hcz36_2
    try clear hcz40_0
    try clear hcz40_1
    try clear hcz40_2
    try clear hcz44_0
    try clear hcz44_1
    try clear hcz44_2
    try clear hcz47_0
    try clear hcz47_1
    try clear hcz47_2
    try clear hcz7_0
    try clear hcz7_1
    try clear hcz7_2
    try clear hfz19_0
    try clear hfz19_1
    try clear hfz19_2
    try clear hfz24_0
    try clear hfz24_1
    try clear hfz24_2
    try clear hfz26_0
    try clear hfz26_1
    try clear hfz26_2
    try clear hfz28_0
    try clear hfz28_1
    try clear hfz28_2
    try clear hfz30_0
    try clear hfz30_1
    try clear hfz30_2
    try clear hfz36_0
    try clear hfz36_1
    try clear hfz36_2
    try clear hfz40_0
    try clear hfz40_1
    try clear hfz40_2
    try clear hfz44_0
    try clear hfz44_1
    try clear hfz44_2
    try clear hfz47_0
    try clear hfz47_1
    try clear hfz47_2
    try clear hfz7_0
    try clear hfz7_1
    try clear hfz7_2
    obtain ⟨kq, x73_16, rfl, HA, HJ16, HO_5, HO_7, HO_9, HO_11, BK339, HB⟩ := hcut
    cases kq with
    | zero => exact absurd HA.out (by simp [turnstilelaw12_FlowWays.j0])
    | succ kj16 =>
     have H := HA.out
     clear HA
     simp only [turnstilelaw12_FlowWays.j0] at H
     by_cases c48 : x73_16 = true
     ·
      subst c48
      have H1 : (some false) = some r := by rw [if_pos rfl] at H; exact H
      clear H
      have H := H1
      clear H1
      obtain rfl := Option.some.inj H
      go_wp2
      go_ret
      exact ⟨by first | rfl | (simp [errW_none, errW_some] <;> rfl) | (simp [*, errW_none, errW_some] <;> rfl), by repeat (first | (with_reducible first | exact HB.out | apply below_alloc | apply pw_below_drewN | apply below_drew1 | refine below_set ?_ GE339.out) | exact HB.out)⟩
     ·
      replace c48 := Bool.eq_false_iff.mpr c48
      subst c48
      have H1 : (if 0 ≤ (l0_2.length : Int) then (if ((l0_2.length : Int) : Int).toNat ≤ 281474976710656 then (turnstilelaw12_FlowWays.l0 kj16 l1 t345 t349 t353 t357 (List.replicate ((l0_2.length : Int) : Int).toNat false) 0 false 0 l0_0 a0_1 l0_2) else (none)) else (none)) = some r := by rw [if_neg (show ¬ (false = true) by decide)] at H; exact H
      clear H
      have H := H1
      clear H1
      by_cases c49 : 0 ≤ (l0_2.length : Int)
      ·
       rw [if_pos c49] at H
       have c49b0 := eq_true c49
       have c49b1 : decide (0 ≤ (l0_2.length : Int)) = true := decide_eq_true c49
       clear c49
       by_cases c50 : ((l0_2.length : Int) : Int).toNat ≤ 281474976710656
       ·
        rw [if_pos c50] at H
        have c50b0 := eq_true c50
        have c50b1 : decide (((l0_2.length : Int) : Int).toNat ≤ 281474976710656) = true := decide_eq_true c50
        clear c50
        obtain ⟨y362, hy362⟩ : ∃ y_ : List Bool, y_ = (List.replicate ((l0_2.length : Int) : Int).toNat false) := ⟨_, rfl⟩
        replace H : (turnstilelaw12_FlowWays.l0 kj16 l1 t345 t349 t353 t357 y362 0 false 0 l0_0 a0_1 l0_2) = some r := by first | (rw [hy362]; with_reducible exact H) | (have H2_ := (Option.bind_some _ _).symm.trans H; rw [hy362]; with_reducible exact H2_) | (have H2_ := (Option.bind_some _ _).symm.trans H; with_reducible exact H2_) | with_reducible exact H | (rw [hy362]; exact H) | exact H
        have Ny362 := Aside0.mk hy362
        clear hy362
        have H' := Aside0.mk H
        clear H
        have hcz51_0 : wc.cell? ⟨gb339, 0, none⟩ = some (.slice A0_0 l0_0.length c0_0) := (blk_cell BK339.out 0).trans rfl
        have hcz51_1 : wc.cell? ⟨gb339, 1, none⟩ = some (.int .i64 a0_1) := (blk_cell BK339.out 1).trans rfl
        have hcz51_2 : wc.cell? ⟨gb339, 2, none⟩ = some (.slice A0_2 l0_2.length c0_2) := (blk_cell BK339.out 2).trans rfl
        have hfz51_0 := blk_frozen BK339.out 0
        have hfz51_1 := blk_frozen BK339.out 1
        have hfz51_2 := blk_frozen BK339.out 2
        go_wp2_with (first | ((with_reducible refine gate_dst (N := 77) rfl ?_); (try (refine gate_guard (by rfl) ?_; dsimp only)); refine Kd.R_make Kd.bool _ 4 rfl (N := 77) rfl 22 _ _ rfl (l0_2.length : Int) rfl rfl Try.underlying22 (.bool false) 1 info4 rfl (by decide) (by omega) false (ok := fun _ => True) (okp := fun _ => True) rfl (fun _ hk => hk) trivial (of_decide_eq_true (by first | (with_reducible assumption) | assumption)) (Nat.le_trans (Nat.mul_le_mul_right _ (of_decide_eq_true (by first | (with_reducible assumption) | assumption) : (l0_2.length : Int).toNat ≤ 281474976710656)) (by omega)) (Below.refl _ _) (Nat.le_refl _) ?_; intro v363 w52 ho53 hb hg_ hnew_; clear hg_ hnew_; (first | rw [← Ny362.out] at ho53 | (simp only [Int.reduceToNat] at ho53; rw [← Ny362.out] at ho53)); have n0_ := Aside0.mk (Kd.R_elder' (by (with_reducible repeat (first | apply Kd.R_alloc | apply Kd.R_drewN | apply Kd.R_drew)); exact HO_5.out) (Kd.R_base ho53) hb); have n1_ := Aside0.mk (Kd.S_below (by (with_reducible repeat (first | apply Kd.S_alloc | apply Kd.S_drewN | apply Kd.S_drew)); exact HO_7.out) hb); have n2_ := Aside0.mk (Kd.R_below (by (with_reducible repeat (first | apply Kd.R_alloc | apply Kd.R_drewN | apply Kd.R_drew)); exact HO_9.out) hb); have n3_ := Aside0.mk (Kd.R_elder' (by (with_reducible repeat (first | apply Kd.R_alloc | apply Kd.R_drewN | apply Kd.R_drew)); exact HO_11.out) (Kd.R_base ho53) hb); have n4_ := Aside0.mk (Kd.R_lower (Kd.R_new' (Kd.R_new' ho53 (Kd.R_lt (by (with_reducible repeat (first | apply Kd.R_alloc | apply Kd.R_drewN | apply Kd.R_drew)); exact HO_5.out))) (Kd.R_lt (by (with_reducible repeat (first | apply Kd.R_alloc | apply Kd.R_drewN | apply Kd.R_drew)); exact HO_11.out))) (below_size (by repeat (first | (with_reducible first | exact HB.out | apply below_alloc | apply pw_below_drewN | apply below_drew1 | refine below_set ?_ GE339.out) | exact HB.out)))); have n5_ := Aside0.mk (blk_below (g := gb339) (o := .cells #[.slice A0_0 l0_0.length c0_0, .int .i64 a0_1, .slice A0_2 l0_2.length c0_2] 25 (0, 0)) (by (with_reducible repeat (first | refine blk_drewN ?_ _ | refine blk_drew ?_ | refine blk_alloc ?_ _)); exact BK339.out) hb); have n6_ := Aside0.mk (below_step (by repeat (first | (with_reducible first | exact HB.out | apply below_alloc | apply pw_below_drewN | apply below_drew1 | refine below_set ?_ GE339.out) | exact HB.out)) hb); clear HO_5; clear HO_7; clear HO_9; clear HO_11; clear BK339; clear HB; have HO_5 := n0_; have HO_7 := n1_; have HO_9 := n2_; have HO_11 := n3_; have HO364 := n4_; have BK339 := n5_; have HB := n6_; clear n0_ n1_ n2_ n3_ n4_ n5_ n6_; clear hb ho53))
        go_loopg [14, 15, 16] kj16 (fun kq v14 v15 v16 w' => ∃ (x13_2 : List Bool) (x14_2 : Int) (x15_2 : Bool) (x16_2 : Int), v14 = .int .i64 x14_2 ∧ v15 = .bool x15_2 ∧ v16 = .int .i64 x16_2 ∧ Aside0 (turnstilelaw12_FlowWays.l0 kq l1 t345 t349 t353 t357 x13_2 x14_2 x15_2 x16_2 l0_0 a0_1 l0_2 = some r) ∧ Aside0 (kq ≤ kj16) ∧ Aside0 (Kd.R Kd.bool 4 w' w.heap.size (fun k_ => some k_ ≠ (v358 : Value).ownBlock ∧ some k_ ≠ (v363 : Value).ownBlock) v346 t345) ∧ Aside0 (Kd.S (Kd.slice 3 (Kd.int .i64)) 37 w' w.heap.size (fun k_ => some k_ ≠ (v354 : Value).ownBlock) v350 t349) ∧ Aside0 (Kd.R (Kd.int .i64) 3 w' w.heap.size (fun _ => True) v354 t353) ∧ Aside0 (Kd.R Kd.bool 4 w' w.heap.size (fun k_ => some k_ ≠ (v346 : Value).ownBlock ∧ some k_ ≠ (v363 : Value).ownBlock) v358 t357) ∧ Aside0 (Kd.R Kd.bool 4 w' w.heap.size (fun k_ => some k_ ≠ (v346 : Value).ownBlock ∧ some k_ ≠ (v358 : Value).ownBlock) v363 x13_2) ∧ Aside0 (w'.heap[gb339]? = some (.cells #[(.slice A0_0 l0_0.length c0_0), .int .i64 a0_1, (.slice A0_2 l0_2.length c0_2)] 25 (0, 0))) ∧ Aside0 (Below w.heap.size w w'))
        case atStart => exact ⟨(y362), (0), (false), (0), (by first | rfl | (simp; done) | (simp [*]; done)), (by first | rfl | (simp; done) | (simp [*]; done)), (by first | rfl | (simp; done) | (simp [*]; done)), H', ⟨Nat.le_refl _⟩, ⟨by (with_reducible repeat (first | apply Kd.R_alloc | apply Kd.R_drewN | apply Kd.R_drew)); exact HO_5.out⟩, ⟨by (with_reducible repeat (first | apply Kd.S_alloc | apply Kd.S_drewN | apply Kd.S_drew)); exact HO_7.out⟩, ⟨by (with_reducible repeat (first | apply Kd.R_alloc | apply Kd.R_drewN | apply Kd.R_drew)); exact HO_9.out⟩, ⟨by (with_reducible repeat (first | apply Kd.R_alloc | apply Kd.R_drewN | apply Kd.R_drew)); exact HO_11.out⟩, ⟨by (with_reducible repeat (first | apply Kd.R_alloc | apply Kd.R_drewN | apply Kd.R_drew)); exact Kd.R_mono HO364.out (fun _ hk => ⟨hk.1.2, hk.2⟩)⟩, ⟨by (with_reducible repeat (first | refine blk_drewN ?_ _ | refine blk_drew ?_ | refine blk_alloc ?_ _)); exact BK339.out⟩, ⟨by repeat (first | (with_reducible first | exact HB.out | apply below_alloc | apply pw_below_drewN | apply below_drew1 | refine below_set ?_ GE339.out) | exact HB.out)⟩⟩
        case round =>
         as_aux_lemma =>
          clear H'
          try clear c1
          try clear p2
          try clear c3
          try clear c4
          try clear c5
          try clear c12
          try clear c13
          try clear c14
          try clear c16
          try clear c16b0
          try clear c16b1
          try clear c32
          try clear c32b0
          try clear c32b1
          try clear c32b2
          try clear c33
          try clear c33b0
          try clear c33b1
          try clear c33b2
          try clear c34
          try clear c34b0
          try clear c34b1
          try clear c34b2
          try clear c48
          try clear c49
          try clear c49b0
          try clear c49b1
          try clear c50
          try clear c50b0
          try clear c50b1
          try clear c51
          try clear c53
          try clear hcz19_0
          try clear hcz19_1
          try clear hcz19_2
          try clear hcz24_0
          try clear hcz24_1
          try clear hcz24_2
          try clear hcz26_0
          try clear hcz26_1
          try clear hcz26_2
          try clear hcz28_0
          try clear hcz28_1
          try clear hcz28_2
          try clear hcz30_0
          try clear hcz30_1
          try clear hcz30_2
          try clear hcz36_0
          try clear hcz36_1
          try clear hcz36_2
          try clear hcz40_0
          try clear hcz40_1
          try clear hcz40_2
          try clear hcz44_0
          try clear hcz44_1
          try clear hcz44_2
          try clear hcz47_0
          try clear hcz47_1
          try clear hcz47_2
          try clear hcz51_0
          try clear hcz51_1
          try clear hcz51_2
          try clear hcz7_0
          try clear hcz7_1
          try clear hcz7_2
          try clear hfz19_0
          try clear hfz19_1
          try clear hfz19_2
          try clear hfz24_0
          try clear hfz24_1
          try clear hfz24_2
          try clear hfz26_0
          try clear hfz26_1
          try clear hfz26_2
          try clear hfz28_0
          try clear hfz28_1
          try clear hfz28_2
          try clear hfz30_0
          try clear hfz30_1
          try clear hfz30_2
          try clear hfz36_0
          try clear hfz36_1
          try clear hfz36_2
          try clear hfz40_0
          try clear hfz40_1
          try clear hfz40_2
          try clear hfz44_0
          try clear hfz44_1
          try clear hfz44_2
          try clear hfz47_0
          try clear hfz47_1
          try clear hfz47_2
          try clear hfz51_0
          try clear hfz51_1
          try clear hfz51_2
          try clear hfz7_0
          try clear hfz7_1
          try clear hfz7_2
          try clear p2
          obtain ⟨x13_2, x14_2, x15_2, x16_2, rfl, rfl, rfl, HA, HK2, HO_5, HO_7, HO_9, HO_11, HO_13, BK339, HB⟩ := hrel
          cases gk with
          | zero => exact absurd HA.out (by simp [turnstilelaw12_FlowWays.l0])
          | succ k2 =>
           have H := HA.out
           clear HA
           simp only [turnstilelaw12_FlowWays.l0] at H
           by_cases c54 : 0 ≤ x14_2
           ·
            rw [if_pos c54] at H
            have c54b0 : decide (0 ≤ x14_2) = true := decide_eq_true c54
            clear c54
            by_cases c55 : x14_2 < (x13_2.length : Int)
            ·
             rw [if_pos c55] at H
             have c55b0 : decide (x14_2 < (x13_2.length : Int)) = true := decide_eq_true c55
             clear c55
             obtain ⟨y365, hy365⟩ : ∃ y_ : List Bool, y_ = (x13_2.set (x14_2 : Int).toNat true) := ⟨_, rfl⟩
             replace H : (if x14_2 < (t345.length : Int) then (if rdOf false t345 x14_2 = true then (if x14_2 < (t357.length : Int) then (if ((rdOf false t357 x14_2) != x15_2) = true then (turnstilelaw12_FlowWays.j2 k2 l1 t345 t349 t353 t357 y365 x14_2 x15_2 x16_2 true l0_0 a0_1 l0_2) else (if x14_2 < (t353.length : Int) then (if (rd t353 x14_2) ≥ 0 then (if 0 ≤ (rd t353 x14_2) then (if (rd t353 x14_2) < (x13_2.length : Int) then (turnstilelaw12_FlowWays.j2 k2 l1 t345 t349 t353 t357 y365 x14_2 x15_2 x16_2 (!(rdOf false y365 (rd t353 x14_2))) l0_0 a0_1 l0_2) else (none)) else (none)) else (turnstilelaw12_FlowWays.j2 k2 l1 t345 t349 t353 t357 y365 x14_2 x15_2 x16_2 false l0_0 a0_1 l0_2)) else (none))) else (none)) else (turnstilelaw12_FlowWays.j2 k2 l1 t345 t349 t353 t357 y365 x14_2 x15_2 x16_2 true l0_0 a0_1 l0_2)) else (none)) = some r := by first | (rw [hy365]; with_reducible exact H) | (have H2_ := (Option.bind_some _ _).symm.trans H; rw [hy365]; with_reducible exact H2_) | (have H2_ := (Option.bind_some _ _).symm.trans H; with_reducible exact H2_) | with_reducible exact H | (rw [hy365]; exact H) | exact H
             have Ny365 := Aside0.mk hy365
             clear hy365
             have HC57 := Aside0.mk H
             clear H
             have p56 : 0 ≤ (x14_2 : Int) := of_decide_eq_true (by first | (with_reducible assumption) | assumption)
             have q56 : (x14_2 : Int) < ((x13_2.length : Int) : Int) := of_decide_eq_true (by first | (with_reducible assumption) | assumption)
             obtain ⟨go56, co56, eo56, gb56, gl56, cl56, HG56⟩ := Kd.R_form HO_13.out (by omega)
             (first | cases eo56 | (injection eo56 with ea_ en_ ec_; (first | subst ea_ | (injection ea_ with ea_; subst ea_)); subst ec_; clear en_))
             have GB56 := Aside0.mk gb56
             have GG56 := Aside0.mk HG56
             clear gb56 gl56 HG56
             obtain ⟨hx56_0, hf56_0⟩ := Kd.R_celln false HO_13.out (x14_2 : Int) p56 q56
             replace p56 := eq_true p56
             replace q56 := eq_true q56
             have HP58 := Kd.R_putg HO_13.out (x14_2 : Int) true
             go_upto_region 16 with (first | ((with_reducible refine gate_store (t := 4) (p := 82) rfl ?_); refine store_event (t := 4) (p := 82) (v := ?vo_w59) (w1 := (wr.setCell ⟨go56, (x14_2 : Int).toNat, none⟩ (.bool true))) ?hg ?ho ?hn ?hr ?_; (case ho => rfl); (case hg => rfl); (case hn => rfl); (case hr => first | (go_simp; done) | (go_simp; rfl)); intro w59 hw; have hg : wr.grownBy w59 (some go56) := (by rw [hw]; exact HP58.2); have hp_ : Kd.R Kd.bool 4 w59 w.heap.size (fun k_ => some k_ ≠ (v346 : Value).ownBlock ∧ some k_ ≠ (v358 : Value).ownBlock) (.slice (some ⟨go56, 0, none⟩) x13_2.length co56) y365 := (by rw [hw, Ny365.out]; exact HP58.1); clear HP58; have n0_ := Aside0.mk (Kd.R_after (v := (.slice (some ⟨go56, 0, none⟩) x13_2.length co56)) (v1 := (.slice (some ⟨go56, 0, none⟩) x13_2.length co56)) (ok := (fun k_ => some k_ ≠ (v358 : Value).ownBlock)) (by (with_reducible repeat (first | apply Kd.R_alloc | apply Kd.R_drewN | apply Kd.R_drew)); exact HO_5.out) hg (.inl rfl)); have n1_ := Aside0.mk (Kd.S_over' (v := (.slice (some ⟨go56, 0, none⟩) x13_2.length co56)) (by (with_reducible repeat (first | apply Kd.S_alloc | apply Kd.S_drewN | apply Kd.S_drew)); exact HO_7.out) (Kd.R_typed HO_13.out) (by decide) hg); have n2_ := Aside0.mk (Kd.R_over' (v := (.slice (some ⟨go56, 0, none⟩) x13_2.length co56)) (by (with_reducible repeat (first | apply Kd.R_alloc | apply Kd.R_drewN | apply Kd.R_drew)); exact HO_9.out) (Kd.R_typed HO_13.out) (by decide) hg); have n3_ := Aside0.mk (Kd.R_after (v := (.slice (some ⟨go56, 0, none⟩) x13_2.length co56)) (v1 := (.slice (some ⟨go56, 0, none⟩) x13_2.length co56)) (ok := (fun k_ => some k_ ≠ (v346 : Value).ownBlock)) (by (with_reducible repeat (first | apply Kd.R_alloc | apply Kd.R_drewN | apply Kd.R_drew)); exact HO_11.out) hg (.inl rfl)); have n4_ := Aside0.mk (hp_); have n5_ := Aside0.mk (blk_grown (g := gb339) (o := .cells #[.slice A0_0 l0_0.length c0_0, .int .i64 a0_1, .slice A0_2 l0_2.length c0_2] 25 (0, 0)) (by (with_reducible repeat (first | refine blk_drewN ?_ _ | refine blk_drew ?_ | refine blk_alloc ?_ _)); exact BK339.out) hg (Kd.R_ne HO_13.out BK339.out (by decide))); have n6_ := Aside0.mk ((by rw [hw]; exact below_set (HB.out) GB56.out : Below w.heap.size w w59)); clear HO_5; clear HO_7; clear HO_9; clear HO_11; clear HO_13; clear BK339; clear HB; have HO_5 := n0_; have HO_7 := n1_; have HO_9 := n2_; have HO_11 := n3_; have HO_13 := n4_; have BK339 := n5_; have HB := n6_; clear n0_ n1_ n2_ n3_ n4_ n5_ n6_; clear hg hw hp_))
             (try simp only [Act.put, List.setIfInBounds_toArray, List.set_cons_zero, List.set_cons_succ])
             go_cut [112] (fun v112 wc => ∃ (kq : Nat) (x112_56 : Bool), v112 = .bool x112_56 ∧ Aside0 (turnstilelaw12_FlowWays.j2 kq l1 t345 t349 t353 t357 y365 x14_2 x15_2 x16_2 x112_56 l0_0 a0_1 l0_2 = some r) ∧ Aside0 (kq ≤ k2) ∧ Aside0 (Kd.R Kd.bool 4 wc w.heap.size (fun k_ => some k_ ≠ (v358 : Value).ownBlock ∧ some k_ ≠ ((.slice (some ⟨go56, 0, none⟩) x13_2.length co56) : Value).ownBlock) v346 t345) ∧ Aside0 (Kd.S (Kd.slice 3 (Kd.int .i64)) 37 wc w.heap.size (fun k_ => some k_ ≠ (v354 : Value).ownBlock) v350 t349) ∧ Aside0 (Kd.R (Kd.int .i64) 3 wc w.heap.size (fun _ => True) v354 t353) ∧ Aside0 (Kd.R Kd.bool 4 wc w.heap.size (fun k_ => some k_ ≠ (v346 : Value).ownBlock ∧ some k_ ≠ ((.slice (some ⟨go56, 0, none⟩) x13_2.length co56) : Value).ownBlock) v358 t357) ∧ Aside0 (Kd.R Kd.bool 4 wc w.heap.size (fun k_ => some k_ ≠ (v346 : Value).ownBlock ∧ some k_ ≠ (v358 : Value).ownBlock) (.slice (some ⟨go56, 0, none⟩) x13_2.length co56) y365) ∧ Aside0 (wc.heap[gb339]? = some (.cells #[(.slice A0_0 l0_0.length c0_0), .int .i64 a0_1, (.slice A0_2 l0_2.length c0_2)] 25 (0, 0))) ∧ Aside0 (Below w.heap.size w wc))
             case first =>
              as_aux_lemma =>
               have H := HC57.out
               clear HC57
               by_cases c60 : x14_2 < (t345.length : Int)
               ·
                rw [if_pos c60] at H
                have c60b0 : decide (x14_2 < (t345.length : Int)) = true := decide_eq_true c60
                clear c60
                (first | rw [c60b0] | (simp only [i64_w, i32_w]; rw [c60b0]) | skip)
                obtain ⟨bq61, hbq61⟩ : ∃ b_ : Bool, b_ = (rdOf false t345 x14_2) := ⟨_, rfl⟩
                replace H : (if bq61 = true then (if x14_2 < (t357.length : Int) then (if ((rdOf false t357 x14_2) != x15_2) = true then (turnstilelaw12_FlowWays.j2 k2 l1 t345 t349 t353 t357 y365 x14_2 x15_2 x16_2 true l0_0 a0_1 l0_2) else (if x14_2 < (t353.length : Int) then (if (rd t353 x14_2) ≥ 0 then (if 0 ≤ (rd t353 x14_2) then (if (rd t353 x14_2) < (x13_2.length : Int) then (turnstilelaw12_FlowWays.j2 k2 l1 t345 t349 t353 t357 y365 x14_2 x15_2 x16_2 (!(rdOf false y365 (rd t353 x14_2))) l0_0 a0_1 l0_2) else (none)) else (none)) else (turnstilelaw12_FlowWays.j2 k2 l1 t345 t349 t353 t357 y365 x14_2 x15_2 x16_2 false l0_0 a0_1 l0_2)) else (none))) else (none)) else (turnstilelaw12_FlowWays.j2 k2 l1 t345 t349 t353 t357 y365 x14_2 x15_2 x16_2 true l0_0 a0_1 l0_2)) = some r := by rw [← hbq61] at H; exact H
                have Nbq61 := Aside0.mk hbq61
                clear hbq61
                by_cases c62 : bq61 = true
                ·
                 subst c62
                 have H1 : (if x14_2 < (t357.length : Int) then (if ((rdOf false t357 x14_2) != x15_2) = true then (turnstilelaw12_FlowWays.j2 k2 l1 t345 t349 t353 t357 y365 x14_2 x15_2 x16_2 true l0_0 a0_1 l0_2) else (if x14_2 < (t353.length : Int) then (if (rd t353 x14_2) ≥ 0 then (if 0 ≤ (rd t353 x14_2) then (if (rd t353 x14_2) < (x13_2.length : Int) then (turnstilelaw12_FlowWays.j2 k2 l1 t345 t349 t353 t357 y365 x14_2 x15_2 x16_2 (!(rdOf false y365 (rd t353 x14_2))) l0_0 a0_1 l0_2) else (none)) else (none)) else (turnstilelaw12_FlowWays.j2 k2 l1 t345 t349 t353 t357 y365 x14_2 x15_2 x16_2 false l0_0 a0_1 l0_2)) else (none))) else (none)) = some r := by rw [if_pos rfl] at H; exact H
                 clear H
                 have H := H1
                 clear H1
                 by_cases c63 : x14_2 < (t357.length : Int)
                 ·
                  rw [if_pos c63] at H
                  have c63b0 : decide (x14_2 < (t357.length : Int)) = true := decide_eq_true c63
                  clear c63
                  by_cases c64 : ((rdOf false t357 x14_2) != x15_2) = true
                  ·
                   rw [if_pos c64] at H
                   have c64b0 : ((rdOf false t357 x14_2) != x15_2) = true := c64
                   (try (have c64b1 : decide ((rdOf false t357 x14_2) = x15_2) = false := by simpa using c64))
                   (try (have c64b2 : ((rdOf false t357 x14_2) == x15_2) = false := by simpa using c64))
                   (try (have c64b3 : ¬ ((rdOf false t357 x14_2) = x15_2) := by simpa using c64))
                   clear c64
                   have H' := Aside0.mk H
                   clear H
                   obtain ⟨Ao65, co65, eo65⟩ := Kd.R_slice HO_5.out
                   subst eo65
                   have p366 : 0 ≤ (x14_2 : Int) := of_decide_eq_true (by first | (with_reducible assumption) | assumption)
                   have q366 : x14_2 < (t345.length : Int) := of_decide_eq_true (by first | (with_reducible assumption) | assumption)
                   obtain ⟨ad366, e366, hx366_0⟩ := Kd.at_bool (Kd.R_reads' HO_5.out).2.2 x14_2 p366 q366
                   (try rw [← Nbq61.out] at hx366_0)
                   cases e366
                   replace p366 := eq_true p366
                   replace q366 := eq_true q366
                   obtain ⟨Ao66, co66, eo66⟩ := Kd.R_slice HO_11.out
                   subst eo66
                   have p367 : 0 ≤ (x14_2 : Int) := of_decide_eq_true (by first | (with_reducible assumption) | assumption)
                   have q367 : x14_2 < (t357.length : Int) := of_decide_eq_true (by first | (with_reducible assumption) | assumption)
                   obtain ⟨ad367, e367, hx367_0⟩ := Kd.at_bool (Kd.R_reads' HO_11.out).2.2 x14_2 p367 q367
                   (try rw [← Nbq61.out] at hx367_0)
                   cases e367
                   replace p367 := eq_true p367
                   replace q367 := eq_true q367
                   go_wp2
                   go_meet
                   case rel => exact ⟨_, (true), (by first | rfl | (simp; done) | (simp [*]; done)), H', ⟨by have := HJ16.out; have := HK2.out; first | omega | exact Nat.le_refl _⟩, ⟨by (with_reducible repeat (first | apply Kd.R_alloc | apply Kd.R_drewN | apply Kd.R_drew)); exact HO_5.out⟩, ⟨by (with_reducible repeat (first | apply Kd.S_alloc | apply Kd.S_drewN | apply Kd.S_drew)); exact HO_7.out⟩, ⟨by (with_reducible repeat (first | apply Kd.R_alloc | apply Kd.R_drewN | apply Kd.R_drew)); exact HO_9.out⟩, ⟨by (with_reducible repeat (first | apply Kd.R_alloc | apply Kd.R_drewN | apply Kd.R_drew)); exact HO_11.out⟩, ⟨by (with_reducible repeat (first | apply Kd.R_alloc | apply Kd.R_drewN | apply Kd.R_drew)); exact HO_13.out⟩, ⟨by (with_reducible repeat (first | refine blk_drewN ?_ _ | refine blk_drew ?_ | refine blk_alloc ?_ _)); exact BK339.out⟩, ⟨by repeat (first | (with_reducible first | exact HB.out | apply below_alloc | apply pw_below_drewN | apply below_drew1 | refine below_set ?_ GE339.out) | exact HB.out)⟩⟩
                  ·
                   rw [if_neg c64] at H
                   have c64b0 : ((rdOf false t357 x14_2) != x15_2) = false := by simpa using c64
                   (try (have c64b1 : decide ((rdOf false t357 x14_2) = x15_2) = true := by simpa using c64))
                   (try (have c64b2 : ((rdOf false t357 x14_2) == x15_2) = true := by simpa using c64))
                   clear c64
                   by_cases c67 : x14_2 < (t353.length : Int)
                   ·
                    rw [if_pos c67] at H
                    have c67b0 : decide (x14_2 < (t353.length : Int)) = true := decide_eq_true c67
                    clear c67
                    by_cases c68 : (rd t353 x14_2) ≥ 0
                    ·
                     rw [if_pos c68] at H
                     have c68b0 : decide (0 ≤ (rd t353 x14_2)) = true := decide_eq_true c68
                     clear c68
                     by_cases c69 : 0 ≤ (rd t353 x14_2)
                     ·
                      rw [if_pos c69] at H
                      have c69b0 : decide (0 ≤ (rd t353 x14_2)) = true := decide_eq_true c69
                      clear c69
                      by_cases c70 : (rd t353 x14_2) < (x13_2.length : Int)
                      ·
                       rw [if_pos c70] at H
                       have c70b0 : decide ((rd t353 x14_2) < (x13_2.length : Int)) = true := decide_eq_true c70
                       clear c70
                       have H' := Aside0.mk H
                       clear H
                       obtain ⟨Ao71, co71, eo71⟩ := Kd.R_slice HO_5.out
                       subst eo71
                       have p366 : 0 ≤ (x14_2 : Int) := of_decide_eq_true (by first | (with_reducible assumption) | assumption)
                       have q366 : x14_2 < (t345.length : Int) := of_decide_eq_true (by first | (with_reducible assumption) | assumption)
                       obtain ⟨ad366, e366, hx366_0⟩ := Kd.at_bool (Kd.R_reads' HO_5.out).2.2 x14_2 p366 q366
                       (try rw [← Nbq61.out] at hx366_0)
                       cases e366
                       replace p366 := eq_true p366
                       replace q366 := eq_true q366
                       obtain ⟨Ao72, co72, eo72⟩ := Kd.R_slice HO_11.out
                       subst eo72
                       have p367 : 0 ≤ (x14_2 : Int) := of_decide_eq_true (by first | (with_reducible assumption) | assumption)
                       have q367 : x14_2 < (t357.length : Int) := of_decide_eq_true (by first | (with_reducible assumption) | assumption)
                       obtain ⟨ad367, e367, hx367_0⟩ := Kd.at_bool (Kd.R_reads' HO_11.out).2.2 x14_2 p367 q367
                       (try rw [← Nbq61.out] at hx367_0)
                       cases e367
                       replace p367 := eq_true p367
                       replace q367 := eq_true q367
                       obtain ⟨Ao73, co73, eo73⟩ := Kd.R_slice HO_9.out
                       subst eo73
                       have p368 : 0 ≤ (x14_2 : Int) := of_decide_eq_true (by first | (with_reducible assumption) | assumption)
                       have q368 : x14_2 < (t353.length : Int) := of_decide_eq_true (by first | (with_reducible assumption) | assumption)
                       obtain ⟨ad368, e368, hx368_0⟩ := Kd.at_int (Kd.R_reads' HO_9.out).2.2 x14_2 p368 q368
                       cases e368
                       replace p368 := eq_true p368
                       replace q368 := eq_true q368
                       have p369 : 0 ≤ (x14_2 : Int) := of_decide_eq_true (by first | (with_reducible assumption) | assumption)
                       have q369 : x14_2 < (t353.length : Int) := of_decide_eq_true (by first | (with_reducible assumption) | assumption)
                       obtain ⟨ad369, e369, hx369_0⟩ := Kd.at_int (Kd.R_reads' HO_9.out).2.2 x14_2 p369 q369
                       obtain rfl : ad368 = ad369 := (by injection e369)
                       replace p369 := eq_true p369
                       replace q369 := eq_true q369
                       have p370 : 0 ≤ ((rd t353 x14_2) : Int) := of_decide_eq_true (by first | (with_reducible assumption) | assumption)
                       have q370 : (rd t353 x14_2) < (y365.length : Int) := (by have h_ : ((rd t353 x14_2) : Int) < ((x13_2.length : Int) : Int) := of_decide_eq_true (by first | (with_reducible assumption) | assumption); first | (have e_ := (Kd.R_reads' HO_13.out).1; omega) | simpa only [Ny365.out, List.length_set] using h_)
                       have ql370 : (((rd t353 x14_2) : Int) < ((x13_2.length : Int) : Int)) = True := eq_true (of_decide_eq_true (by first | (with_reducible assumption) | assumption))
                       obtain ⟨ad370, e370, hx370_0⟩ := Kd.at_bool (Kd.R_reads' HO_13.out).2.2 (rd t353 x14_2) p370 q370
                       (try rw [← Nbq61.out] at hx370_0)
                       obtain rfl : (⟨go56, 0, none⟩ : Addr) = ad370 := (by injection e370)
                       (first | simp only [add_plain] at hx370_0 | simp only [add_at] at hx370_0 | simp only [Addr.add, Nat.zero_add] at hx370_0 | skip)
                       replace p370 := eq_true p370
                       replace q370 := eq_true q370
                       go_wp2
                       go_meet
                       case rel => exact ⟨_, (!(rdOf false y365 (rd t353 x14_2))), (by first | rfl | (simp; done) | (simp [*]; done)), H', ⟨by have := HJ16.out; have := HK2.out; first | omega | exact Nat.le_refl _⟩, ⟨by (with_reducible repeat (first | apply Kd.R_alloc | apply Kd.R_drewN | apply Kd.R_drew)); exact HO_5.out⟩, ⟨by (with_reducible repeat (first | apply Kd.S_alloc | apply Kd.S_drewN | apply Kd.S_drew)); exact HO_7.out⟩, ⟨by (with_reducible repeat (first | apply Kd.R_alloc | apply Kd.R_drewN | apply Kd.R_drew)); exact HO_9.out⟩, ⟨by (with_reducible repeat (first | apply Kd.R_alloc | apply Kd.R_drewN | apply Kd.R_drew)); exact HO_11.out⟩, ⟨by (with_reducible repeat (first | apply Kd.R_alloc | apply Kd.R_drewN | apply Kd.R_drew)); exact HO_13.out⟩, ⟨by (with_reducible repeat (first | refine blk_drewN ?_ _ | refine blk_drew ?_ | refine blk_alloc ?_ _)); exact BK339.out⟩, ⟨by repeat (first | (with_reducible first | exact HB.out | apply below_alloc | apply pw_below_drewN | apply below_drew1 | refine below_set ?_ GE339.out) | exact HB.out)⟩⟩
                      ·
                       rw [if_neg c70] at H
                       exact absurd H (by simp)
                     ·
                      rw [if_neg c69] at H
                      exact absurd H (by simp)
                    ·
                     rw [if_neg c68] at H
                     have c68b0 : decide (0 ≤ (rd t353 x14_2)) = false := decide_eq_false c68
                     clear c68
                     have H' := Aside0.mk H
                     clear H
                     obtain ⟨Ao74, co74, eo74⟩ := Kd.R_slice HO_5.out
                     subst eo74
                     have p366 : 0 ≤ (x14_2 : Int) := of_decide_eq_true (by first | (with_reducible assumption) | assumption)
                     have q366 : x14_2 < (t345.length : Int) := of_decide_eq_true (by first | (with_reducible assumption) | assumption)
                     obtain ⟨ad366, e366, hx366_0⟩ := Kd.at_bool (Kd.R_reads' HO_5.out).2.2 x14_2 p366 q366
                     (try rw [← Nbq61.out] at hx366_0)
                     cases e366
                     replace p366 := eq_true p366
                     replace q366 := eq_true q366
                     obtain ⟨Ao75, co75, eo75⟩ := Kd.R_slice HO_11.out
                     subst eo75
                     have p367 : 0 ≤ (x14_2 : Int) := of_decide_eq_true (by first | (with_reducible assumption) | assumption)
                     have q367 : x14_2 < (t357.length : Int) := of_decide_eq_true (by first | (with_reducible assumption) | assumption)
                     obtain ⟨ad367, e367, hx367_0⟩ := Kd.at_bool (Kd.R_reads' HO_11.out).2.2 x14_2 p367 q367
                     (try rw [← Nbq61.out] at hx367_0)
                     cases e367
                     replace p367 := eq_true p367
                     replace q367 := eq_true q367
                     obtain ⟨Ao76, co76, eo76⟩ := Kd.R_slice HO_9.out
                     subst eo76
                     have p368 : 0 ≤ (x14_2 : Int) := of_decide_eq_true (by first | (with_reducible assumption) | assumption)
                     have q368 : x14_2 < (t353.length : Int) := of_decide_eq_true (by first | (with_reducible assumption) | assumption)
                     obtain ⟨ad368, e368, hx368_0⟩ := Kd.at_int (Kd.R_reads' HO_9.out).2.2 x14_2 p368 q368
                     cases e368
                     replace p368 := eq_true p368
                     replace q368 := eq_true q368
                     go_wp2
                     go_meet
                     case rel => exact ⟨_, (false), (by first | rfl | (simp; done) | (simp [*]; done)), H', ⟨by have := HJ16.out; have := HK2.out; first | omega | exact Nat.le_refl _⟩, ⟨by (with_reducible repeat (first | apply Kd.R_alloc | apply Kd.R_drewN | apply Kd.R_drew)); exact HO_5.out⟩, ⟨by (with_reducible repeat (first | apply Kd.S_alloc | apply Kd.S_drewN | apply Kd.S_drew)); exact HO_7.out⟩, ⟨by (with_reducible repeat (first | apply Kd.R_alloc | apply Kd.R_drewN | apply Kd.R_drew)); exact HO_9.out⟩, ⟨by (with_reducible repeat (first | apply Kd.R_alloc | apply Kd.R_drewN | apply Kd.R_drew)); exact HO_11.out⟩, ⟨by (with_reducible repeat (first | apply Kd.R_alloc | apply Kd.R_drewN | apply Kd.R_drew)); exact HO_13.out⟩, ⟨by (with_reducible repeat (first | refine blk_drewN ?_ _ | refine blk_drew ?_ | refine blk_alloc ?_ _)); exact BK339.out⟩, ⟨by repeat (first | (with_reducible first | exact HB.out | apply below_alloc | apply pw_below_drewN | apply below_drew1 | refine below_set ?_ GE339.out) | exact HB.out)⟩⟩
                   ·
                    rw [if_neg c67] at H
                    exact absurd H (by simp)
                 ·
                  rw [if_neg c63] at H
                  exact absurd H (by simp)
                ·
                 replace c62 := Bool.eq_false_iff.mpr c62
                 subst c62
                 have H1 : (turnstilelaw12_FlowWays.j2 k2 l1 t345 t349 t353 t357 y365 x14_2 x15_2 x16_2 true l0_0 a0_1 l0_2) = some r := by rw [if_neg (show ¬ (false = true) by decide)] at H; exact H
                 clear H
                 have H := H1
                 clear H1
                 have H' := Aside0.mk H
                 clear H
                 obtain ⟨Ao77, co77, eo77⟩ := Kd.R_slice HO_5.out
                 subst eo77
                 have p366 : 0 ≤ (x14_2 : Int) := of_decide_eq_true (by first | (with_reducible assumption) | assumption)
                 have q366 : x14_2 < (t345.length : Int) := of_decide_eq_true (by first | (with_reducible assumption) | assumption)
                 obtain ⟨ad366, e366, hx366_0⟩ := Kd.at_bool (Kd.R_reads' HO_5.out).2.2 x14_2 p366 q366
                 (try rw [← Nbq61.out] at hx366_0)
                 cases e366
                 replace p366 := eq_true p366
                 replace q366 := eq_true q366
                 go_wp2
                 go_meet
                 case rel => exact ⟨_, (true), (by first | rfl | (simp; done) | (simp [*]; done)), H', ⟨by have := HJ16.out; have := HK2.out; first | omega | exact Nat.le_refl _⟩, ⟨by (with_reducible repeat (first | apply Kd.R_alloc | apply Kd.R_drewN | apply Kd.R_drew)); exact HO_5.out⟩, ⟨by (with_reducible repeat (first | apply Kd.S_alloc | apply Kd.S_drewN | apply Kd.S_drew)); exact HO_7.out⟩, ⟨by (with_reducible repeat (first | apply Kd.R_alloc | apply Kd.R_drewN | apply Kd.R_drew)); exact HO_9.out⟩, ⟨by (with_reducible repeat (first | apply Kd.R_alloc | apply Kd.R_drewN | apply Kd.R_drew)); exact HO_11.out⟩, ⟨by (with_reducible repeat (first | apply Kd.R_alloc | apply Kd.R_drewN | apply Kd.R_drew)); exact HO_13.out⟩, ⟨by (with_reducible repeat (first | refine blk_drewN ?_ _ | refine blk_drew ?_ | refine blk_alloc ?_ _)); exact BK339.out⟩, ⟨by repeat (first | (with_reducible first | exact HB.out | apply below_alloc | apply pw_below_drewN | apply below_drew1 | refine below_set ?_ GE339.out) | exact HB.out)⟩⟩
               ·
                rw [if_neg c60] at H
                exact absurd H (by simp)
             case rest =>
              clear HC57
              try clear c1
              try clear p2
              try clear c3
              try clear p3
              try clear q3
              try clear hx3
              try clear c4
              try clear c5
              try clear p5
              try clear q5
              try clear hx5
              try clear hf5
              try clear c6
              try clear q6
              try clear c7
              try clear c12
              try clear c13
              try clear c14
              try clear c16
              try clear c16b0
              try clear c16b1
              try clear c32
              try clear c32b0
              try clear c32b1
              try clear c32b2
              try clear c33
              try clear c33b0
              try clear c33b1
              try clear c33b2
              try clear c34
              try clear c34b0
              try clear c34b1
              try clear c34b2
              try clear p36
              try clear q36
              try clear hx36
              try clear p37
              try clear q37
              try clear hx37
              try clear c48
              try clear c49
              try clear c49b0
              try clear c49b1
              try clear c50
              try clear c50b0
              try clear c50b1
              try clear c51
              try clear c53
              try clear c54
              try clear c54b0
              try clear c55
              try clear c55b0
              try clear p56
              try clear q56
              try clear hx56
              try clear hf56
              try clear c60
              try clear c60b0
              try clear q61
              try clear c62
              try clear c63
              try clear c63b0
              try clear c64
              try clear c64b0
              try clear c64b1
              try clear c64b2
              try clear c67
              try clear c67b0
              try clear c68
              try clear c68b0
              try clear c69
              try clear c69b0
              try clear c70
              try clear c70b0
              try clear hcz19_0
              try clear hcz19_1
              try clear hcz19_2
              try clear hcz24_0
              try clear hcz24_1
              try clear hcz24_2
              try clear hcz26_0
              try clear hcz26_1
              try clear hcz26_2
              try clear hcz28_0
              try clear hcz28_1
              try clear hcz28_2
              try clear hcz30_0
              try clear hcz30_1
              try clear hcz30_2
              try clear hcz36_0
              try clear hcz36_1
              try clear hcz36_2
              try clear hcz40_0
              try clear hcz40_1
              try clear hcz40_2
              try clear hcz44_0
              try clear hcz44_1
              try clear hcz44_2
              try clear hcz47_0
              try clear hcz47_1
              try clear hcz47_2
              try clear hcz51_0
              try clear hcz51_1
              try clear hcz51_2
              try clear hcz7_0
              try clear hcz7_1
              try clear hcz7_2
              try clear hfz19_0
              try clear hfz19_1
              try clear hfz19_2
              try clear hfz24_0
              try clear hfz24_1
              try clear hfz24_2
              try clear hfz26_0
              try clear hfz26_1
              try clear hfz26_2
              try clear hfz28_0
              try clear hfz28_1
              try clear hfz28_2
              try clear hfz30_0
              try clear hfz30_1
              try clear hfz30_2
              try clear hfz36_0
              try clear hfz36_1
              try clear hfz36_2
              try clear hfz40_0
              try clear hfz40_1
              try clear hfz40_2
              try clear hfz44_0
              try clear hfz44_1
              try clear hfz44_2
              try clear hfz47_0
              try clear hfz47_1
              try clear hfz47_2
              try clear hfz51_0
              try clear hfz51_1
              try clear hfz51_2
              try clear hfz7_0
              try clear hfz7_1
              try clear hfz7_2
              try clear hx366_0
              try clear hx367_0
              try clear hx368_0
              try clear hx369_0
              try clear hx370_0
              try clear hx56_0
              try clear p2
              try clear p366
              try clear p367
              try clear p368
              try clear p369
              try clear p370
              try clear p56
              try clear q366
              try clear q367
              try clear q368
              try clear q369
              try clear q370
              try clear q56
              obtain ⟨kq, x112_56, rfl, HA, HJ56, HO_5, HO_7, HO_9, HO_11, HO_13, BK339, HB⟩ := hcut
              have hl13_56 := (Kd.R_reads' HO_13.out).1
              rw [hl13_56] at HO_13
              (try simp only [hl13_56])
              (try simp only [hl13_56] at BK339)
              (try simp only [hl13_56] at HO_5)
              (try simp only [hl13_56] at HO_7)
              (try simp only [hl13_56] at HO_9)
              (try simp only [hl13_56] at HO_11)
              cases kq with
              | zero => exact absurd HA.out (by simp [turnstilelaw12_FlowWays.j2])
              | succ kj56 =>
               have H := HA.out
               clear HA
               simp only [turnstilelaw12_FlowWays.j2] at H
               by_cases c78 : x112_56 = true
               ·
                subst c78
                have H1 : (some false) = some r := by rw [if_pos rfl] at H; exact H
                clear H
                have H := H1
                clear H1
                obtain rfl := Option.some.inj H
                go_wp2
                go_ret
                exact ⟨by first | rfl | (simp [errW_none, errW_some] <;> rfl) | (simp [*, errW_none, errW_some] <;> rfl), by repeat (first | (with_reducible first | exact HB.out | apply below_alloc | apply pw_below_drewN | apply below_drew1 | refine below_set ?_ GE339.out) | exact HB.out)⟩
               ·
                replace c78 := Bool.eq_false_iff.mpr c78
                subst c78
                have H1 : (turnstilelaw12_FlowWays.l1 kj56 l1 t345 t349 t353 t357 y365 x14_2 x15_2 x16_2 0 l0_0 a0_1 l0_2) = some r := by rw [if_neg (show ¬ (false = true) by decide)] at H; exact H
                clear H
                have H := H1
                clear H1
                have H' := Aside0.mk H
                clear H
                go_wp2
                go_loopg [15, 17] kj56 (fun kq v15 v17 w' => ∃ (x15_4 : Bool) (x17_4 : Int), v15 = .bool x15_4 ∧ v17 = .int .i64 x17_4 ∧ Aside0 (turnstilelaw12_FlowWays.l1 kq l1 t345 t349 t353 t357 y365 x14_2 x15_4 x16_2 x17_4 l0_0 a0_1 l0_2 = some r) ∧ Aside0 (kq ≤ kj56) ∧ Aside0 (Kd.R Kd.bool 4 w' w.heap.size (fun k_ => some k_ ≠ (v358 : Value).ownBlock ∧ some k_ ≠ ((.slice (some ⟨go56, 0, none⟩) y365.length co56) : Value).ownBlock) v346 t345) ∧ Aside0 (Kd.S (Kd.slice 3 (Kd.int .i64)) 37 w' w.heap.size (fun k_ => some k_ ≠ (v354 : Value).ownBlock) v350 t349) ∧ Aside0 (Kd.R (Kd.int .i64) 3 w' w.heap.size (fun _ => True) v354 t353) ∧ Aside0 (Kd.R Kd.bool 4 w' w.heap.size (fun k_ => some k_ ≠ (v346 : Value).ownBlock ∧ some k_ ≠ ((.slice (some ⟨go56, 0, none⟩) y365.length co56) : Value).ownBlock) v358 t357) ∧ Aside0 (Kd.R Kd.bool 4 w' w.heap.size (fun k_ => some k_ ≠ (v346 : Value).ownBlock ∧ some k_ ≠ (v358 : Value).ownBlock) (.slice (some ⟨go56, 0, none⟩) y365.length co56) y365) ∧ Aside0 (w'.heap[gb339]? = some (.cells #[(.slice A0_0 l0_0.length c0_0), .int .i64 a0_1, (.slice A0_2 l0_2.length c0_2)] 25 (0, 0))) ∧ Aside0 (Below w.heap.size w w'))
                case atStart => exact ⟨(x15_2), (0), (by first | rfl | (simp; done) | (simp [*]; done)), (by first | rfl | (simp; done) | (simp [*]; done)), H', ⟨Nat.le_refl _⟩, ⟨by (try simp only [hl13_56]); (with_reducible repeat (first | apply Kd.R_alloc | apply Kd.R_drewN | apply Kd.R_drew)); exact HO_5.out⟩, ⟨by (try simp only [hl13_56]); (with_reducible repeat (first | apply Kd.S_alloc | apply Kd.S_drewN | apply Kd.S_drew)); exact HO_7.out⟩, ⟨by (try simp only [hl13_56]); (with_reducible repeat (first | apply Kd.R_alloc | apply Kd.R_drewN | apply Kd.R_drew)); exact HO_9.out⟩, ⟨by (try simp only [hl13_56]); (with_reducible repeat (first | apply Kd.R_alloc | apply Kd.R_drewN | apply Kd.R_drew)); exact HO_11.out⟩, ⟨by (try simp only [hl13_56]); (with_reducible repeat (first | apply Kd.R_alloc | apply Kd.R_drewN | apply Kd.R_drew)); exact HO_13.out⟩, ⟨by (try simp only [hl13_56]); (with_reducible repeat (first | refine blk_drewN ?_ _ | refine blk_drew ?_ | refine blk_alloc ?_ _)); exact BK339.out⟩, ⟨by repeat (first | (with_reducible first | exact HB.out | apply below_alloc | apply pw_below_drewN | apply below_drew1 | refine below_set ?_ GE339.out) | exact HB.out)⟩⟩
                case round =>
                 as_aux_lemma =>
                  clear H'
                  try clear c1
                  try clear p2
                  try clear c3
                  try clear p3
                  try clear q3
                  try clear hx3
                  try clear c4
                  try clear c5
                  try clear p5
                  try clear q5
                  try clear hx5
                  try clear hf5
                  try clear c6
                  try clear q6
                  try clear c7
                  try clear c12
                  try clear c13
                  try clear c14
                  try clear c16
                  try clear c16b0
                  try clear c16b1
                  try clear c32
                  try clear c32b0
                  try clear c32b1
                  try clear c32b2
                  try clear c33
                  try clear c33b0
                  try clear c33b1
                  try clear c33b2
                  try clear c34
                  try clear c34b0
                  try clear c34b1
                  try clear c34b2
                  try clear p36
                  try clear q36
                  try clear hx36
                  try clear p37
                  try clear q37
                  try clear hx37
                  try clear c48
                  try clear c49
                  try clear c49b0
                  try clear c49b1
                  try clear c50
                  try clear c50b0
                  try clear c50b1
                  try clear c51
                  try clear c53
                  try clear c54
                  try clear c54b0
                  try clear c55
                  try clear c55b0
                  try clear p56
                  try clear q56
                  try clear hx56
                  try clear hf56
                  try clear c60
                  try clear c60b0
                  try clear q61
                  try clear c62
                  try clear c63
                  try clear c63b0
                  try clear c64
                  try clear c64b0
                  try clear c64b1
                  try clear c64b2
                  try clear c67
                  try clear c67b0
                  try clear c68
                  try clear c68b0
                  try clear c69
                  try clear c69b0
                  try clear c70
                  try clear c70b0
                  try clear c78
                  try clear hcz19_0
                  try clear hcz19_1
                  try clear hcz19_2
                  try clear hcz24_0
                  try clear hcz24_1
                  try clear hcz24_2
                  try clear hcz26_0
                  try clear hcz26_1
                  try clear hcz26_2
                  try clear hcz28_0
                  try clear hcz28_1
                  try clear hcz28_2
                  try clear hcz30_0
                  try clear hcz30_1
                  try clear hcz30_2
                  try clear hcz36_0
                  try clear hcz36_1
                  try clear hcz36_2
                  try clear hcz40_0
                  try clear hcz40_1
                  try clear hcz40_2
                  try clear hcz44_0
                  try clear hcz44_1
                  try clear hcz44_2
                  try clear hcz47_0
                  try clear hcz47_1
                  try clear hcz47_2
                  try clear hcz51_0
                  try clear hcz51_1
                  try clear hcz51_2
                  try clear hcz7_0
                  try clear hcz7_1
                  try clear hcz7_2
                  try clear hfz19_0
                  try clear hfz19_1
                  try clear hfz19_2
                  try clear hfz24_0
                  try clear hfz24_1
                  try clear hfz24_2
                  try clear hfz26_0
                  try clear hfz26_1
                  try clear hfz26_2
                  try clear hfz28_0
                  try clear hfz28_1
                  try clear hfz28_2
                  try clear hfz30_0
                  try clear hfz30_1
                  try clear hfz30_2
                  try clear hfz36_0
                  try clear hfz36_1
                  try clear hfz36_2
                  try clear hfz40_0
                  try clear hfz40_1
                  try clear hfz40_2
                  try clear hfz44_0
                  try clear hfz44_1
                  try clear hfz44_2
                  try clear hfz47_0
                  try clear hfz47_1
                  try clear hfz47_2
                  try clear hfz51_0
                  try clear hfz51_1
                  try clear hfz51_2
                  try clear hfz7_0
                  try clear hfz7_1
                  try clear hfz7_2
                  try clear hx366_0
                  try clear hx367_0
                  try clear hx368_0
                  try clear hx369_0
                  try clear hx370_0
                  try clear hx56_0
                  try clear p2
                  try clear p3
                  try clear p36
                  try clear p366
                  try clear p367
                  try clear p368
                  try clear p369
                  try clear p37
                  try clear p370
                  try clear p5
                  try clear p56
                  try clear q3
                  try clear q36
                  try clear q366
                  try clear q367
                  try clear q368
                  try clear q369
                  try clear q37
                  try clear q370
                  try clear q5
                  try clear q56
                  try clear q6
                  try clear q61
                  obtain ⟨x15_4, x17_4, rfl, rfl, HA, HK4, HO_5, HO_7, HO_9, HO_11, HO_13, BK339, HB⟩ := hrel
                  cases gk with
                  | zero => exact absurd HA.out (by simp [turnstilelaw12_FlowWays.l1])
                  | succ k4 =>
                   have H := HA.out
                   clear HA
                   simp only [turnstilelaw12_FlowWays.l1] at H
                   by_cases c79 : 0 ≤ x14_2
                   ·
                    rw [if_pos c79] at H
                    have c79b0 : decide (0 ≤ x14_2) = true := decide_eq_true c79
                    clear c79
                    by_cases c80 : x14_2 < (l0_2.length : Int)
                    ·
                     rw [if_pos c80] at H
                     have c80b0 : decide (x14_2 < (l0_2.length : Int)) = true := decide_eq_true c80
                     clear c80
                     by_cases c81 : x17_4 < (((rd_T36 l0_2 x14_2).f0).length : Int)
                     ·
                      rw [if_pos c81] at H
                      have c81b0 : decide (x17_4 < (((rd_T36 l0_2 x14_2).f0).length : Int)) = true := decide_eq_true c81
                      clear c81
                      by_cases c82 : 0 ≤ x17_4
                      ·
                       rw [if_pos c82] at H
                       have c82b0 : decide (0 ≤ x17_4) = true := decide_eq_true c82
                       clear c82
                       by_cases c83 : ((rd_T46 ((rd_T36 l0_2 x14_2).f0) x17_4).f0) = 13
                       ·
                        rw [if_pos c83] at H
                        have c83b0 : (((rd_T46 ((rd_T36 l0_2 x14_2).f0) x17_4).f0) == 13) = true := beq_iff_eq.mpr c83
                        have c83b1 : (((rd_T46 ((rd_T36 l0_2 x14_2).f0) x17_4).f0) != 13) = false := bne_eq_false_iff_eq.mpr c83
                        clear c83
                        have H' := Aside0.mk H
                        clear H
                        have hcz84_0 : wr.cell? ⟨gb339, 0, none⟩ = some (.slice A0_0 l0_0.length c0_0) := (blk_cell BK339.out 0).trans rfl
                        have hcz84_1 : wr.cell? ⟨gb339, 1, none⟩ = some (.int .i64 a0_1) := (blk_cell BK339.out 1).trans rfl
                        have hcz84_2 : wr.cell? ⟨gb339, 2, none⟩ = some (.slice A0_2 l0_2.length c0_2) := (blk_cell BK339.out 2).trans rfl
                        have hfz84_0 := blk_frozen BK339.out 0
                        have hfz84_1 := blk_frozen BK339.out 1
                        have hfz84_2 := blk_frozen BK339.out 2
                        have p371 : 0 ≤ (x14_2 : Int) := of_decide_eq_true (by first | (with_reducible assumption) | assumption)
                        have q371 : x14_2 < (l0_2.length : Int) := of_decide_eq_true (by first | (with_reducible assumption) | assumption)
                        obtain ⟨ad371, A371_0, c371_0, e371, hx371_0, hx371_1, hx371_2, hx371_3, hx371_4, hl371_0, hi371_0⟩ := at_T36 HR0_2.out x14_2 p371 q371
                        cases e371
                        replace hx371_0 := (HB.out.cell (World.block_lt_of_cell? w _ hx371_0)).trans hx371_0
                        replace hx371_1 := (HB.out.cell (World.block_lt_of_cell? w _ hx371_1)).trans hx371_1
                        replace hx371_2 := (HB.out.cell (World.block_lt_of_cell? w _ hx371_2)).trans hx371_2
                        replace hx371_3 := (HB.out.cell (World.block_lt_of_cell? w _ hx371_3)).trans hx371_3
                        replace hx371_4 := (HB.out.cell (World.block_lt_of_cell? w _ hx371_4)).trans hx371_4
                        have HR371_0 := Aside0.mk hi371_0
                        have HC371_0 := Aside0.mk hl371_0
                        clear hi371_0 hl371_0
                        replace p371 := eq_true p371
                        replace q371 := eq_true q371
                        have p372 : 0 ≤ (x14_2 : Int) := of_decide_eq_true (by first | (with_reducible assumption) | assumption)
                        have q372 : x14_2 < (l0_2.length : Int) := of_decide_eq_true (by first | (with_reducible assumption) | assumption)
                        obtain ⟨ad372, A372_0, c372_0, e372, hx372_0, hx372_1, hx372_2, hx372_3, hx372_4, hl372_0, hi372_0⟩ := at_T36 HR0_2.out x14_2 p372 q372
                        obtain rfl : ad371 = ad372 := (by injection e372)
                        replace hx372_0 := (HB.out.cell (World.block_lt_of_cell? w _ hx372_0)).trans hx372_0
                        replace hx372_1 := (HB.out.cell (World.block_lt_of_cell? w _ hx372_1)).trans hx372_1
                        replace hx372_2 := (HB.out.cell (World.block_lt_of_cell? w _ hx372_2)).trans hx372_2
                        replace hx372_3 := (HB.out.cell (World.block_lt_of_cell? w _ hx372_3)).trans hx372_3
                        replace hx372_4 := (HB.out.cell (World.block_lt_of_cell? w _ hx372_4)).trans hx372_4
                        have HR372_0 := Aside0.mk hi372_0
                        have HC372_0 := Aside0.mk hl372_0
                        clear hi372_0 hl372_0
                        replace p372 := eq_true p372
                        replace q372 := eq_true q372
                        have ea_ := Option.some.inj (hx371_0.symm.trans hx372_0)
                        injection ea_ with ea_ en_ ec_
                        subst ea_
                        subst ec_
                        clear en_
                        have p373 : 0 ≤ (x17_4 : Int) := of_decide_eq_true (by first | (with_reducible assumption) | assumption)
                        have q373 : x17_4 < (((rd_T36 l0_2 x14_2).f0).length : Int) := of_decide_eq_true (by first | (with_reducible assumption) | assumption)
                        obtain ⟨ad373, e373, hx373_0, hx373_1, hx373_2, hx373_3, hx373_4, hx373_5⟩ := at_T46 HR372_0.out x17_4 p373 q373
                        cases e373
                        replace hx373_0 := (HB.out.cell (World.block_lt_of_cell? w _ hx373_0)).trans hx373_0
                        replace hx373_1 := (HB.out.cell (World.block_lt_of_cell? w _ hx373_1)).trans hx373_1
                        replace hx373_2 := (HB.out.cell (World.block_lt_of_cell? w _ hx373_2)).trans hx373_2
                        replace hx373_3 := (HB.out.cell (World.block_lt_of_cell? w _ hx373_3)).trans hx373_3
                        replace hx373_4 := (HB.out.cell (World.block_lt_of_cell? w _ hx373_4)).trans hx373_4
                        replace hx373_5 := (HB.out.cell (World.block_lt_of_cell? w _ hx373_5)).trans hx373_5
                        replace p373 := eq_true p373
                        replace q373 := eq_true q373
                        have p374 : 0 ≤ (x14_2 : Int) := of_decide_eq_true (by first | (with_reducible assumption) | assumption)
                        have q374 : x14_2 < (l0_2.length : Int) := of_decide_eq_true (by first | (with_reducible assumption) | assumption)
                        obtain ⟨ad374, A374_0, c374_0, e374, hx374_0, hx374_1, hx374_2, hx374_3, hx374_4, hl374_0, hi374_0⟩ := at_T36 HR0_2.out x14_2 p374 q374
                        obtain rfl : ad371 = ad374 := (by injection e374)
                        replace hx374_0 := (HB.out.cell (World.block_lt_of_cell? w _ hx374_0)).trans hx374_0
                        replace hx374_1 := (HB.out.cell (World.block_lt_of_cell? w _ hx374_1)).trans hx374_1
                        replace hx374_2 := (HB.out.cell (World.block_lt_of_cell? w _ hx374_2)).trans hx374_2
                        replace hx374_3 := (HB.out.cell (World.block_lt_of_cell? w _ hx374_3)).trans hx374_3
                        replace hx374_4 := (HB.out.cell (World.block_lt_of_cell? w _ hx374_4)).trans hx374_4
                        have HR374_0 := Aside0.mk hi374_0
                        have HC374_0 := Aside0.mk hl374_0
                        clear hi374_0 hl374_0
                        replace p374 := eq_true p374
                        replace q374 := eq_true q374
                        have ea_ := Option.some.inj (hx371_0.symm.trans hx374_0)
                        injection ea_ with ea_ en_ ec_
                        subst ea_
                        subst ec_
                        clear en_
                        have p375 : 0 ≤ (x17_4 : Int) := of_decide_eq_true (by first | (with_reducible assumption) | assumption)
                        have q375 : x17_4 < (((rd_T36 l0_2 x14_2).f0).length : Int) := of_decide_eq_true (by first | (with_reducible assumption) | assumption)
                        obtain ⟨ad375, e375, hx375_0, hx375_1, hx375_2, hx375_3, hx375_4, hx375_5⟩ := at_T46 HR374_0.out x17_4 p375 q375
                        cases e375
                        replace hx375_0 := (HB.out.cell (World.block_lt_of_cell? w _ hx375_0)).trans hx375_0
                        replace hx375_1 := (HB.out.cell (World.block_lt_of_cell? w _ hx375_1)).trans hx375_1
                        replace hx375_2 := (HB.out.cell (World.block_lt_of_cell? w _ hx375_2)).trans hx375_2
                        replace hx375_3 := (HB.out.cell (World.block_lt_of_cell? w _ hx375_3)).trans hx375_3
                        replace hx375_4 := (HB.out.cell (World.block_lt_of_cell? w _ hx375_4)).trans hx375_4
                        replace hx375_5 := (HB.out.cell (World.block_lt_of_cell? w _ hx375_5)).trans hx375_5
                        replace p375 := eq_true p375
                        replace q375 := eq_true q375
                        go_wp2
                        go_roundg k4
                        case measure => have := HJ16.out; have := HK2.out; have := HJ56.out; have := HK4.out; omega
                        case rel => exact ⟨((((rd_T46 ((rd_T36 l0_2 x14_2).f0) x17_4).f0) == 13)), (wrap64 (x17_4 + 1)), (by first | rfl | (simp; done) | (simp [*]; done)), (by first | rfl | (simp; done) | (simp [*]; done)), H', ⟨by have := HJ16.out; have := HK2.out; have := HJ56.out; have := HK4.out; omega⟩, ⟨by (try simp only [hl13_56]); (with_reducible repeat (first | apply Kd.R_alloc | apply Kd.R_drewN | apply Kd.R_drew)); exact HO_5.out⟩, ⟨by (try simp only [hl13_56]); (with_reducible repeat (first | apply Kd.S_alloc | apply Kd.S_drewN | apply Kd.S_drew)); exact HO_7.out⟩, ⟨by (try simp only [hl13_56]); (with_reducible repeat (first | apply Kd.R_alloc | apply Kd.R_drewN | apply Kd.R_drew)); exact HO_9.out⟩, ⟨by (try simp only [hl13_56]); (with_reducible repeat (first | apply Kd.R_alloc | apply Kd.R_drewN | apply Kd.R_drew)); exact HO_11.out⟩, ⟨by (try simp only [hl13_56]); (with_reducible repeat (first | apply Kd.R_alloc | apply Kd.R_drewN | apply Kd.R_drew)); exact HO_13.out⟩, ⟨by (try simp only [hl13_56]); (with_reducible repeat (first | refine blk_drewN ?_ _ | refine blk_drew ?_ | refine blk_alloc ?_ _)); exact BK339.out⟩, ⟨by repeat (first | (with_reducible first | exact HB.out | apply below_alloc | apply pw_below_drewN | apply below_drew1 | refine below_set ?_ GE339.out) | exact HB.out)⟩⟩
                       ·
                        rw [if_neg c83] at H
                        have c83b0 : (((rd_T46 ((rd_T36 l0_2 x14_2).f0) x17_4).f0) == 13) = false := beq_eq_false_iff_ne.mpr c83
                        have c83b1 : (((rd_T46 ((rd_T36 l0_2 x14_2).f0) x17_4).f0) != 13) = true := bne_iff_ne.mpr c83
                        by_cases c85 : ((rd_T46 ((rd_T36 l0_2 x14_2).f0) x17_4).f0) = 14
                        ·
                         rw [if_pos c85] at H
                         have c85b0 : (((rd_T46 ((rd_T36 l0_2 x14_2).f0) x17_4).f0) == 14) = true := beq_iff_eq.mpr c85
                         have c85b1 : (((rd_T46 ((rd_T36 l0_2 x14_2).f0) x17_4).f0) != 14) = false := bne_eq_false_iff_eq.mpr c85
                         clear c85
                         have H' := Aside0.mk H
                         clear H
                         have hcz86_0 : wr.cell? ⟨gb339, 0, none⟩ = some (.slice A0_0 l0_0.length c0_0) := (blk_cell BK339.out 0).trans rfl
                         have hcz86_1 : wr.cell? ⟨gb339, 1, none⟩ = some (.int .i64 a0_1) := (blk_cell BK339.out 1).trans rfl
                         have hcz86_2 : wr.cell? ⟨gb339, 2, none⟩ = some (.slice A0_2 l0_2.length c0_2) := (blk_cell BK339.out 2).trans rfl
                         have hfz86_0 := blk_frozen BK339.out 0
                         have hfz86_1 := blk_frozen BK339.out 1
                         have hfz86_2 := blk_frozen BK339.out 2
                         have p371 : 0 ≤ (x14_2 : Int) := of_decide_eq_true (by first | (with_reducible assumption) | assumption)
                         have q371 : x14_2 < (l0_2.length : Int) := of_decide_eq_true (by first | (with_reducible assumption) | assumption)
                         obtain ⟨ad371, A371_0, c371_0, e371, hx371_0, hx371_1, hx371_2, hx371_3, hx371_4, hl371_0, hi371_0⟩ := at_T36 HR0_2.out x14_2 p371 q371
                         cases e371
                         replace hx371_0 := (HB.out.cell (World.block_lt_of_cell? w _ hx371_0)).trans hx371_0
                         replace hx371_1 := (HB.out.cell (World.block_lt_of_cell? w _ hx371_1)).trans hx371_1
                         replace hx371_2 := (HB.out.cell (World.block_lt_of_cell? w _ hx371_2)).trans hx371_2
                         replace hx371_3 := (HB.out.cell (World.block_lt_of_cell? w _ hx371_3)).trans hx371_3
                         replace hx371_4 := (HB.out.cell (World.block_lt_of_cell? w _ hx371_4)).trans hx371_4
                         have HR371_0 := Aside0.mk hi371_0
                         have HC371_0 := Aside0.mk hl371_0
                         clear hi371_0 hl371_0
                         replace p371 := eq_true p371
                         replace q371 := eq_true q371
                         have p372 : 0 ≤ (x14_2 : Int) := of_decide_eq_true (by first | (with_reducible assumption) | assumption)
                         have q372 : x14_2 < (l0_2.length : Int) := of_decide_eq_true (by first | (with_reducible assumption) | assumption)
                         obtain ⟨ad372, A372_0, c372_0, e372, hx372_0, hx372_1, hx372_2, hx372_3, hx372_4, hl372_0, hi372_0⟩ := at_T36 HR0_2.out x14_2 p372 q372
                         obtain rfl : ad371 = ad372 := (by injection e372)
                         replace hx372_0 := (HB.out.cell (World.block_lt_of_cell? w _ hx372_0)).trans hx372_0
                         replace hx372_1 := (HB.out.cell (World.block_lt_of_cell? w _ hx372_1)).trans hx372_1
                         replace hx372_2 := (HB.out.cell (World.block_lt_of_cell? w _ hx372_2)).trans hx372_2
                         replace hx372_3 := (HB.out.cell (World.block_lt_of_cell? w _ hx372_3)).trans hx372_3
                         replace hx372_4 := (HB.out.cell (World.block_lt_of_cell? w _ hx372_4)).trans hx372_4
                         have HR372_0 := Aside0.mk hi372_0
                         have HC372_0 := Aside0.mk hl372_0
                         clear hi372_0 hl372_0
                         replace p372 := eq_true p372
                         replace q372 := eq_true q372
                         have ea_ := Option.some.inj (hx371_0.symm.trans hx372_0)
                         injection ea_ with ea_ en_ ec_
                         subst ea_
                         subst ec_
                         clear en_
                         have p373 : 0 ≤ (x17_4 : Int) := of_decide_eq_true (by first | (with_reducible assumption) | assumption)
                         have q373 : x17_4 < (((rd_T36 l0_2 x14_2).f0).length : Int) := of_decide_eq_true (by first | (with_reducible assumption) | assumption)
                         obtain ⟨ad373, e373, hx373_0, hx373_1, hx373_2, hx373_3, hx373_4, hx373_5⟩ := at_T46 HR372_0.out x17_4 p373 q373
                         cases e373
                         replace hx373_0 := (HB.out.cell (World.block_lt_of_cell? w _ hx373_0)).trans hx373_0
                         replace hx373_1 := (HB.out.cell (World.block_lt_of_cell? w _ hx373_1)).trans hx373_1
                         replace hx373_2 := (HB.out.cell (World.block_lt_of_cell? w _ hx373_2)).trans hx373_2
                         replace hx373_3 := (HB.out.cell (World.block_lt_of_cell? w _ hx373_3)).trans hx373_3
                         replace hx373_4 := (HB.out.cell (World.block_lt_of_cell? w _ hx373_4)).trans hx373_4
                         replace hx373_5 := (HB.out.cell (World.block_lt_of_cell? w _ hx373_5)).trans hx373_5
                         replace p373 := eq_true p373
                         replace q373 := eq_true q373
                         have p376 : 0 ≤ (x14_2 : Int) := of_decide_eq_true (by first | (with_reducible assumption) | assumption)
                         have q376 : x14_2 < (l0_2.length : Int) := of_decide_eq_true (by first | (with_reducible assumption) | assumption)
                         obtain ⟨ad376, A376_0, c376_0, e376, hx376_0, hx376_1, hx376_2, hx376_3, hx376_4, hl376_0, hi376_0⟩ := at_T36 HR0_2.out x14_2 p376 q376
                         obtain rfl : ad371 = ad376 := (by injection e376)
                         replace hx376_0 := (HB.out.cell (World.block_lt_of_cell? w _ hx376_0)).trans hx376_0
                         replace hx376_1 := (HB.out.cell (World.block_lt_of_cell? w _ hx376_1)).trans hx376_1
                         replace hx376_2 := (HB.out.cell (World.block_lt_of_cell? w _ hx376_2)).trans hx376_2
                         replace hx376_3 := (HB.out.cell (World.block_lt_of_cell? w _ hx376_3)).trans hx376_3
                         replace hx376_4 := (HB.out.cell (World.block_lt_of_cell? w _ hx376_4)).trans hx376_4
                         have HR376_0 := Aside0.mk hi376_0
                         have HC376_0 := Aside0.mk hl376_0
                         clear hi376_0 hl376_0
                         replace p376 := eq_true p376
                         replace q376 := eq_true q376
                         have ea_ := Option.some.inj (hx371_0.symm.trans hx376_0)
                         injection ea_ with ea_ en_ ec_
                         subst ea_
                         subst ec_
                         clear en_
                         have p377 : 0 ≤ (x17_4 : Int) := of_decide_eq_true (by first | (with_reducible assumption) | assumption)
                         have q377 : x17_4 < (((rd_T36 l0_2 x14_2).f0).length : Int) := of_decide_eq_true (by first | (with_reducible assumption) | assumption)
                         obtain ⟨ad377, e377, hx377_0, hx377_1, hx377_2, hx377_3, hx377_4, hx377_5⟩ := at_T46 HR376_0.out x17_4 p377 q377
                         cases e377
                         replace hx377_0 := (HB.out.cell (World.block_lt_of_cell? w _ hx377_0)).trans hx377_0
                         replace hx377_1 := (HB.out.cell (World.block_lt_of_cell? w _ hx377_1)).trans hx377_1
                         replace hx377_2 := (HB.out.cell (World.block_lt_of_cell? w _ hx377_2)).trans hx377_2
                         replace hx377_3 := (HB.out.cell (World.block_lt_of_cell? w _ hx377_3)).trans hx377_3
                         replace hx377_4 := (HB.out.cell (World.block_lt_of_cell? w _ hx377_4)).trans hx377_4
                         replace hx377_5 := (HB.out.cell (World.block_lt_of_cell? w _ hx377_5)).trans hx377_5
                         replace p377 := eq_true p377
                         replace q377 := eq_true q377
                         have p378 : 0 ≤ (x14_2 : Int) := of_decide_eq_true (by first | (with_reducible assumption) | assumption)
                         have q378 : x14_2 < (l0_2.length : Int) := of_decide_eq_true (by first | (with_reducible assumption) | assumption)
                         obtain ⟨ad378, A378_0, c378_0, e378, hx378_0, hx378_1, hx378_2, hx378_3, hx378_4, hl378_0, hi378_0⟩ := at_T36 HR0_2.out x14_2 p378 q378
                         obtain rfl : ad371 = ad378 := (by injection e378)
                         replace hx378_0 := (HB.out.cell (World.block_lt_of_cell? w _ hx378_0)).trans hx378_0
                         replace hx378_1 := (HB.out.cell (World.block_lt_of_cell? w _ hx378_1)).trans hx378_1
                         replace hx378_2 := (HB.out.cell (World.block_lt_of_cell? w _ hx378_2)).trans hx378_2
                         replace hx378_3 := (HB.out.cell (World.block_lt_of_cell? w _ hx378_3)).trans hx378_3
                         replace hx378_4 := (HB.out.cell (World.block_lt_of_cell? w _ hx378_4)).trans hx378_4
                         have HR378_0 := Aside0.mk hi378_0
                         have HC378_0 := Aside0.mk hl378_0
                         clear hi378_0 hl378_0
                         replace p378 := eq_true p378
                         replace q378 := eq_true q378
                         have ea_ := Option.some.inj (hx371_0.symm.trans hx378_0)
                         injection ea_ with ea_ en_ ec_
                         subst ea_
                         subst ec_
                         clear en_
                         have p379 : 0 ≤ (x17_4 : Int) := of_decide_eq_true (by first | (with_reducible assumption) | assumption)
                         have q379 : x17_4 < (((rd_T36 l0_2 x14_2).f0).length : Int) := of_decide_eq_true (by first | (with_reducible assumption) | assumption)
                         obtain ⟨ad379, e379, hx379_0, hx379_1, hx379_2, hx379_3, hx379_4, hx379_5⟩ := at_T46 HR378_0.out x17_4 p379 q379
                         cases e379
                         replace hx379_0 := (HB.out.cell (World.block_lt_of_cell? w _ hx379_0)).trans hx379_0
                         replace hx379_1 := (HB.out.cell (World.block_lt_of_cell? w _ hx379_1)).trans hx379_1
                         replace hx379_2 := (HB.out.cell (World.block_lt_of_cell? w _ hx379_2)).trans hx379_2
                         replace hx379_3 := (HB.out.cell (World.block_lt_of_cell? w _ hx379_3)).trans hx379_3
                         replace hx379_4 := (HB.out.cell (World.block_lt_of_cell? w _ hx379_4)).trans hx379_4
                         replace hx379_5 := (HB.out.cell (World.block_lt_of_cell? w _ hx379_5)).trans hx379_5
                         replace p379 := eq_true p379
                         replace q379 := eq_true q379
                         go_wp2
                         go_roundg k4
                         case measure => have := HJ16.out; have := HK2.out; have := HJ56.out; have := HK4.out; omega
                         case rel => exact ⟨((((rd_T46 ((rd_T36 l0_2 x14_2).f0) x17_4).f0) == 13)), (wrap64 (x17_4 + 1)), (by first | rfl | (simp; done) | (simp [*]; done)), (by first | rfl | (simp; done) | (simp [*]; done)), H', ⟨by have := HJ16.out; have := HK2.out; have := HJ56.out; have := HK4.out; omega⟩, ⟨by (try simp only [hl13_56]); (with_reducible repeat (first | apply Kd.R_alloc | apply Kd.R_drewN | apply Kd.R_drew)); exact HO_5.out⟩, ⟨by (try simp only [hl13_56]); (with_reducible repeat (first | apply Kd.S_alloc | apply Kd.S_drewN | apply Kd.S_drew)); exact HO_7.out⟩, ⟨by (try simp only [hl13_56]); (with_reducible repeat (first | apply Kd.R_alloc | apply Kd.R_drewN | apply Kd.R_drew)); exact HO_9.out⟩, ⟨by (try simp only [hl13_56]); (with_reducible repeat (first | apply Kd.R_alloc | apply Kd.R_drewN | apply Kd.R_drew)); exact HO_11.out⟩, ⟨by (try simp only [hl13_56]); (with_reducible repeat (first | apply Kd.R_alloc | apply Kd.R_drewN | apply Kd.R_drew)); exact HO_13.out⟩, ⟨by (try simp only [hl13_56]); (with_reducible repeat (first | refine blk_drewN ?_ _ | refine blk_drew ?_ | refine blk_alloc ?_ _)); exact BK339.out⟩, ⟨by repeat (first | (with_reducible first | exact HB.out | apply below_alloc | apply pw_below_drewN | apply below_drew1 | refine below_set ?_ GE339.out) | exact HB.out)⟩⟩
                        ·
                         rw [if_neg c85] at H
                         have c85b0 : (((rd_T46 ((rd_T36 l0_2 x14_2).f0) x17_4).f0) == 14) = false := beq_eq_false_iff_ne.mpr c85
                         have c85b1 : (((rd_T46 ((rd_T36 l0_2 x14_2).f0) x17_4).f0) != 14) = true := bne_iff_ne.mpr c85
                         have H' := Aside0.mk H
                         clear H
                         have hcz87_0 : wr.cell? ⟨gb339, 0, none⟩ = some (.slice A0_0 l0_0.length c0_0) := (blk_cell BK339.out 0).trans rfl
                         have hcz87_1 : wr.cell? ⟨gb339, 1, none⟩ = some (.int .i64 a0_1) := (blk_cell BK339.out 1).trans rfl
                         have hcz87_2 : wr.cell? ⟨gb339, 2, none⟩ = some (.slice A0_2 l0_2.length c0_2) := (blk_cell BK339.out 2).trans rfl
                         have hfz87_0 := blk_frozen BK339.out 0
                         have hfz87_1 := blk_frozen BK339.out 1
                         have hfz87_2 := blk_frozen BK339.out 2
                         have p371 : 0 ≤ (x14_2 : Int) := of_decide_eq_true (by first | (with_reducible assumption) | assumption)
                         have q371 : x14_2 < (l0_2.length : Int) := of_decide_eq_true (by first | (with_reducible assumption) | assumption)
                         obtain ⟨ad371, A371_0, c371_0, e371, hx371_0, hx371_1, hx371_2, hx371_3, hx371_4, hl371_0, hi371_0⟩ := at_T36 HR0_2.out x14_2 p371 q371
                         cases e371
                         replace hx371_0 := (HB.out.cell (World.block_lt_of_cell? w _ hx371_0)).trans hx371_0
                         replace hx371_1 := (HB.out.cell (World.block_lt_of_cell? w _ hx371_1)).trans hx371_1
                         replace hx371_2 := (HB.out.cell (World.block_lt_of_cell? w _ hx371_2)).trans hx371_2
                         replace hx371_3 := (HB.out.cell (World.block_lt_of_cell? w _ hx371_3)).trans hx371_3
                         replace hx371_4 := (HB.out.cell (World.block_lt_of_cell? w _ hx371_4)).trans hx371_4
                         have HR371_0 := Aside0.mk hi371_0
                         have HC371_0 := Aside0.mk hl371_0
                         clear hi371_0 hl371_0
                         replace p371 := eq_true p371
                         replace q371 := eq_true q371
                         have p372 : 0 ≤ (x14_2 : Int) := of_decide_eq_true (by first | (with_reducible assumption) | assumption)
                         have q372 : x14_2 < (l0_2.length : Int) := of_decide_eq_true (by first | (with_reducible assumption) | assumption)
                         obtain ⟨ad372, A372_0, c372_0, e372, hx372_0, hx372_1, hx372_2, hx372_3, hx372_4, hl372_0, hi372_0⟩ := at_T36 HR0_2.out x14_2 p372 q372
                         obtain rfl : ad371 = ad372 := (by injection e372)
                         replace hx372_0 := (HB.out.cell (World.block_lt_of_cell? w _ hx372_0)).trans hx372_0
                         replace hx372_1 := (HB.out.cell (World.block_lt_of_cell? w _ hx372_1)).trans hx372_1
                         replace hx372_2 := (HB.out.cell (World.block_lt_of_cell? w _ hx372_2)).trans hx372_2
                         replace hx372_3 := (HB.out.cell (World.block_lt_of_cell? w _ hx372_3)).trans hx372_3
                         replace hx372_4 := (HB.out.cell (World.block_lt_of_cell? w _ hx372_4)).trans hx372_4
                         have HR372_0 := Aside0.mk hi372_0
                         have HC372_0 := Aside0.mk hl372_0
                         clear hi372_0 hl372_0
                         replace p372 := eq_true p372
                         replace q372 := eq_true q372
                         have ea_ := Option.some.inj (hx371_0.symm.trans hx372_0)
                         injection ea_ with ea_ en_ ec_
                         subst ea_
                         subst ec_
                         clear en_
                         have p373 : 0 ≤ (x17_4 : Int) := of_decide_eq_true (by first | (with_reducible assumption) | assumption)
                         have q373 : x17_4 < (((rd_T36 l0_2 x14_2).f0).length : Int) := of_decide_eq_true (by first | (with_reducible assumption) | assumption)
                         obtain ⟨ad373, e373, hx373_0, hx373_1, hx373_2, hx373_3, hx373_4, hx373_5⟩ := at_T46 HR372_0.out x17_4 p373 q373
                         cases e373
                         replace hx373_0 := (HB.out.cell (World.block_lt_of_cell? w _ hx373_0)).trans hx373_0
                         replace hx373_1 := (HB.out.cell (World.block_lt_of_cell? w _ hx373_1)).trans hx373_1
                         replace hx373_2 := (HB.out.cell (World.block_lt_of_cell? w _ hx373_2)).trans hx373_2
                         replace hx373_3 := (HB.out.cell (World.block_lt_of_cell? w _ hx373_3)).trans hx373_3
                         replace hx373_4 := (HB.out.cell (World.block_lt_of_cell? w _ hx373_4)).trans hx373_4
                         replace hx373_5 := (HB.out.cell (World.block_lt_of_cell? w _ hx373_5)).trans hx373_5
                         replace p373 := eq_true p373
                         replace q373 := eq_true q373
                         have p376 : 0 ≤ (x14_2 : Int) := of_decide_eq_true (by first | (with_reducible assumption) | assumption)
                         have q376 : x14_2 < (l0_2.length : Int) := of_decide_eq_true (by first | (with_reducible assumption) | assumption)
                         obtain ⟨ad376, A376_0, c376_0, e376, hx376_0, hx376_1, hx376_2, hx376_3, hx376_4, hl376_0, hi376_0⟩ := at_T36 HR0_2.out x14_2 p376 q376
                         obtain rfl : ad371 = ad376 := (by injection e376)
                         replace hx376_0 := (HB.out.cell (World.block_lt_of_cell? w _ hx376_0)).trans hx376_0
                         replace hx376_1 := (HB.out.cell (World.block_lt_of_cell? w _ hx376_1)).trans hx376_1
                         replace hx376_2 := (HB.out.cell (World.block_lt_of_cell? w _ hx376_2)).trans hx376_2
                         replace hx376_3 := (HB.out.cell (World.block_lt_of_cell? w _ hx376_3)).trans hx376_3
                         replace hx376_4 := (HB.out.cell (World.block_lt_of_cell? w _ hx376_4)).trans hx376_4
                         have HR376_0 := Aside0.mk hi376_0
                         have HC376_0 := Aside0.mk hl376_0
                         clear hi376_0 hl376_0
                         replace p376 := eq_true p376
                         replace q376 := eq_true q376
                         have ea_ := Option.some.inj (hx371_0.symm.trans hx376_0)
                         injection ea_ with ea_ en_ ec_
                         subst ea_
                         subst ec_
                         clear en_
                         have p377 : 0 ≤ (x17_4 : Int) := of_decide_eq_true (by first | (with_reducible assumption) | assumption)
                         have q377 : x17_4 < (((rd_T36 l0_2 x14_2).f0).length : Int) := of_decide_eq_true (by first | (with_reducible assumption) | assumption)
                         obtain ⟨ad377, e377, hx377_0, hx377_1, hx377_2, hx377_3, hx377_4, hx377_5⟩ := at_T46 HR376_0.out x17_4 p377 q377
                         cases e377
                         replace hx377_0 := (HB.out.cell (World.block_lt_of_cell? w _ hx377_0)).trans hx377_0
                         replace hx377_1 := (HB.out.cell (World.block_lt_of_cell? w _ hx377_1)).trans hx377_1
                         replace hx377_2 := (HB.out.cell (World.block_lt_of_cell? w _ hx377_2)).trans hx377_2
                         replace hx377_3 := (HB.out.cell (World.block_lt_of_cell? w _ hx377_3)).trans hx377_3
                         replace hx377_4 := (HB.out.cell (World.block_lt_of_cell? w _ hx377_4)).trans hx377_4
                         replace hx377_5 := (HB.out.cell (World.block_lt_of_cell? w _ hx377_5)).trans hx377_5
                         replace p377 := eq_true p377
                         replace q377 := eq_true q377
                         go_wp2
                         go_roundg k4
                         case measure => have := HJ16.out; have := HK2.out; have := HJ56.out; have := HK4.out; omega
                         case rel => exact ⟨(x15_4), (wrap64 (x17_4 + 1)), (by first | rfl | (simp; done) | (simp [*]; done)), (by first | rfl | (simp; done) | (simp [*]; done)), H', ⟨by have := HJ16.out; have := HK2.out; have := HJ56.out; have := HK4.out; omega⟩, ⟨by (try simp only [hl13_56]); (with_reducible repeat (first | apply Kd.R_alloc | apply Kd.R_drewN | apply Kd.R_drew)); exact HO_5.out⟩, ⟨by (try simp only [hl13_56]); (with_reducible repeat (first | apply Kd.S_alloc | apply Kd.S_drewN | apply Kd.S_drew)); exact HO_7.out⟩, ⟨by (try simp only [hl13_56]); (with_reducible repeat (first | apply Kd.R_alloc | apply Kd.R_drewN | apply Kd.R_drew)); exact HO_9.out⟩, ⟨by (try simp only [hl13_56]); (with_reducible repeat (first | apply Kd.R_alloc | apply Kd.R_drewN | apply Kd.R_drew)); exact HO_11.out⟩, ⟨by (try simp only [hl13_56]); (with_reducible repeat (first | apply Kd.R_alloc | apply Kd.R_drewN | apply Kd.R_drew)); exact HO_13.out⟩, ⟨by (try simp only [hl13_56]); (with_reducible repeat (first | refine blk_drewN ?_ _ | refine blk_drew ?_ | refine blk_alloc ?_ _)); exact BK339.out⟩, ⟨by repeat (first | (with_reducible first | exact HB.out | apply below_alloc | apply pw_below_drewN | apply below_drew1 | refine below_set ?_ GE339.out) | exact HB.out)⟩⟩
                      ·
                       rw [if_neg c82] at H
                       exact absurd H (by simp)
                     ·
                      rw [if_neg c81] at H
                      have c81b0 : decide (x17_4 < (((rd_T36 l0_2 x14_2).f0).length : Int)) = false := decide_eq_false c81
                      clear c81
                      replace H := Option.bind_eq_some_iff.mp H
                      obtain ⟨t381, A880, H⟩ := H
                      replace H : (if x16_2 ≥ (l1.length : Int) then (turnstilelaw12_FlowWays.j4 k4 l1 t345 t349 t353 t357 y365 x14_2 x15_4 x16_2 t381 true l0_0 a0_1 l0_2) else (turnstilelaw12_FlowWays.j4 k4 l1 t345 t349 t353 t357 y365 x14_2 x15_4 x16_2 t381 ((t381.length : Int) == 0) l0_0 a0_1 l0_2)) = some r := H
                      have A88 := Aside0.mk A880
                      clear A880
                      have HC89 := Aside0.mk H
                      clear H
                      have hcz90_0 : wr.cell? ⟨gb339, 0, none⟩ = some (.slice A0_0 l0_0.length c0_0) := (blk_cell BK339.out 0).trans rfl
                      have hcz90_1 : wr.cell? ⟨gb339, 1, none⟩ = some (.int .i64 a0_1) := (blk_cell BK339.out 1).trans rfl
                      have hcz90_2 : wr.cell? ⟨gb339, 2, none⟩ = some (.slice A0_2 l0_2.length c0_2) := (blk_cell BK339.out 2).trans rfl
                      have hfz90_0 := blk_frozen BK339.out 0
                      have hfz90_1 := blk_frozen BK339.out 1
                      have hfz90_2 := blk_frozen BK339.out 2
                      have p371 : 0 ≤ (x14_2 : Int) := of_decide_eq_true (by first | (with_reducible assumption) | assumption)
                      have q371 : x14_2 < (l0_2.length : Int) := of_decide_eq_true (by first | (with_reducible assumption) | assumption)
                      obtain ⟨ad371, A371_0, c371_0, e371, hx371_0, hx371_1, hx371_2, hx371_3, hx371_4, hl371_0, hi371_0⟩ := at_T36 HR0_2.out x14_2 p371 q371
                      cases e371
                      replace hx371_0 := (HB.out.cell (World.block_lt_of_cell? w _ hx371_0)).trans hx371_0
                      replace hx371_1 := (HB.out.cell (World.block_lt_of_cell? w _ hx371_1)).trans hx371_1
                      replace hx371_2 := (HB.out.cell (World.block_lt_of_cell? w _ hx371_2)).trans hx371_2
                      replace hx371_3 := (HB.out.cell (World.block_lt_of_cell? w _ hx371_3)).trans hx371_3
                      replace hx371_4 := (HB.out.cell (World.block_lt_of_cell? w _ hx371_4)).trans hx371_4
                      have HR371_0 := Aside0.mk hi371_0
                      have HC371_0 := Aside0.mk hl371_0
                      clear hi371_0 hl371_0
                      replace p371 := eq_true p371
                      replace q371 := eq_true q371
                      have p380 : 0 ≤ (x14_2 : Int) := of_decide_eq_true (by first | (with_reducible assumption) | assumption)
                      have q380 : x14_2 < (l0_2.length : Int) := of_decide_eq_true (by first | (with_reducible assumption) | assumption)
                      obtain ⟨ad380, A380_0, c380_0, e380, hx380_0, hx380_1, hx380_2, hx380_3, hx380_4, hl380_0, hi380_0⟩ := at_T36 HR0_2.out x14_2 p380 q380
                      obtain rfl : ad371 = ad380 := (by injection e380)
                      replace hx380_0 := (HB.out.cell (World.block_lt_of_cell? w _ hx380_0)).trans hx380_0
                      replace hx380_1 := (HB.out.cell (World.block_lt_of_cell? w _ hx380_1)).trans hx380_1
                      replace hx380_2 := (HB.out.cell (World.block_lt_of_cell? w _ hx380_2)).trans hx380_2
                      replace hx380_3 := (HB.out.cell (World.block_lt_of_cell? w _ hx380_3)).trans hx380_3
                      replace hx380_4 := (HB.out.cell (World.block_lt_of_cell? w _ hx380_4)).trans hx380_4
                      have HR380_0 := Aside0.mk hi380_0
                      have HC380_0 := Aside0.mk hl380_0
                      clear hi380_0 hl380_0
                      replace p380 := eq_true p380
                      replace q380 := eq_true q380
                      have ea_ := Option.some.inj (hx371_0.symm.trans hx380_0)
                      injection ea_ with ea_ en_ ec_
                      subst ea_
                      subst ec_
                      clear en_
                      go_upto_region 24 with (first | ((with_reducible refine gate_callee (f := 54) rfl ?_); refine goesL_ (some 164) rfl rfl Try.func54 (by kernel_rfl) rfl #[.agg #[.slice A371_0 ((rd_T36 l0_2 x14_2).f0).length c371_0, .int .u8 ((rd_T36 l0_2 x14_2).f1), .int .i64 ((rd_T36 l0_2 x14_2).f2), .int .i64 ((rd_T36 l0_2 x14_2).f3), .int .i64 ((rd_T36 l0_2 x14_2).f4)]] rfl (by (try simp only [List.map_toArray, List.map_cons, List.map_nil]); first | done | rfl | (simp only [List.length_drop, List.length_take]; rfl)) ?_; (with_reducible refine (turnstileref09_Next.calls _ _ ((rd_T36 l0_2 x14_2).f0) ((rd_T36 l0_2 x14_2).f1) ((rd_T36 l0_2 x14_2).f2) ((rd_T36 l0_2 x14_2).f3) ((rd_T36 l0_2 x14_2).f4) t381 _ ?side1 ?side2 A88.out).mono ?_); (case side1 => repeat (first | exact (Kd.C_below HR380_0.out HB.out) | (with_reducible refine Kd.C_alloc ?_ _) | (with_reducible refine Kd.C_drewN ?_ _) | (with_reducible refine Kd.C_drew ?_))); (case side2 => exact HC380_0.out); rintro e w91 ⟨v382, rfl, ho0, hb⟩; refine ⟨_, rfl, ?_⟩; have n0_ := Aside0.mk (Kd.R_below (by (with_reducible repeat (first | apply Kd.R_alloc | apply Kd.R_drewN | apply Kd.R_drew)); exact HO_5.out) hb); have n1_ := Aside0.mk (Kd.S_elder' (by (with_reducible repeat (first | apply Kd.S_alloc | apply Kd.S_drewN | apply Kd.S_drew)); exact HO_7.out) (Kd.R_base ho0) hb); have n2_ := Aside0.mk (Kd.R_elder' (by (with_reducible repeat (first | apply Kd.R_alloc | apply Kd.R_drewN | apply Kd.R_drew)); exact HO_9.out) (Kd.R_base ho0) hb); have n3_ := Aside0.mk (Kd.R_below (by (with_reducible repeat (first | apply Kd.R_alloc | apply Kd.R_drewN | apply Kd.R_drew)); exact HO_11.out) hb); have n4_ := Aside0.mk (Kd.R_below (by (with_reducible repeat (first | apply Kd.R_alloc | apply Kd.R_drewN | apply Kd.R_drew)); exact HO_13.out) hb); have n5_ := Aside0.mk (Kd.R_lower (Kd.R_new' ho0 (Kd.R_lt (by (with_reducible repeat (first | apply Kd.R_alloc | apply Kd.R_drewN | apply Kd.R_drew)); exact HO_9.out))) (below_size (by repeat (first | (with_reducible first | exact HB.out | apply below_alloc | apply pw_below_drewN | apply below_drew1 | refine below_set ?_ GE339.out) | exact HB.out)))); have n6_ := Aside0.mk (blk_below (g := gb339) (o := .cells #[.slice A0_0 l0_0.length c0_0, .int .i64 a0_1, .slice (some ad371) l0_2.length c0_2] 25 (0, 0)) (by (with_reducible repeat (first | refine blk_drewN ?_ _ | refine blk_drew ?_ | refine blk_alloc ?_ _)); exact BK339.out) hb); have n7_ := Aside0.mk (below_step (by repeat (first | (with_reducible first | exact HB.out | apply below_alloc | apply pw_below_drewN | apply below_drew1 | refine below_set ?_ GE339.out) | exact HB.out)) hb); clear HO_5; clear HO_7; clear HO_9; clear HO_11; clear HO_13; clear BK339; clear HB; have HO_5 := n0_; have HO_7 := n1_; have HO_9 := n2_; have HO_11 := n3_; have HO_13 := n4_; have HO383 := n5_; have BK339 := n6_; have HB := n7_; clear n0_ n1_ n2_ n3_ n4_ n5_ n6_ n7_; (try clear hb); (try clear hb2); (try clear hk); (try clear hi); (try clear ho0)))
                      (try simp only [Act.put, List.setIfInBounds_toArray, List.set_cons_zero, List.set_cons_succ])
                      go_cut [173] (fun v173 wc => ∃ (kq : Nat) (x173_88 : Bool), v173 = .bool x173_88 ∧ Aside0 (turnstilelaw12_FlowWays.j4 kq l1 t345 t349 t353 t357 y365 x14_2 x15_4 x16_2 t381 x173_88 l0_0 a0_1 l0_2 = some r) ∧ Aside0 (kq ≤ k4) ∧ Aside0 (Kd.R Kd.bool 4 wc w.heap.size (fun k_ => some k_ ≠ (v358 : Value).ownBlock ∧ some k_ ≠ ((.slice (some ⟨go56, 0, none⟩) y365.length co56) : Value).ownBlock) v346 t345) ∧ Aside0 (Kd.S (Kd.slice 3 (Kd.int .i64)) 37 wc w.heap.size (fun k_ => some k_ ≠ (v354 : Value).ownBlock ∧ some k_ ≠ (v382 : Value).ownBlock) v350 t349) ∧ Aside0 (Kd.R (Kd.int .i64) 3 wc w.heap.size (fun k_ => some k_ ≠ (v382 : Value).ownBlock) v354 t353) ∧ Aside0 (Kd.R Kd.bool 4 wc w.heap.size (fun k_ => some k_ ≠ (v346 : Value).ownBlock ∧ some k_ ≠ ((.slice (some ⟨go56, 0, none⟩) y365.length co56) : Value).ownBlock) v358 t357) ∧ Aside0 (Kd.R Kd.bool 4 wc w.heap.size (fun k_ => some k_ ≠ (v346 : Value).ownBlock ∧ some k_ ≠ (v358 : Value).ownBlock) (.slice (some ⟨go56, 0, none⟩) y365.length co56) y365) ∧ Aside0 (Kd.R (Kd.int .i64) 3 wc w.heap.size (fun k_ => some k_ ≠ (v354 : Value).ownBlock) v382 t381) ∧ Aside0 (wc.heap[gb339]? = some (.cells #[(.slice A0_0 l0_0.length c0_0), .int .i64 a0_1, (.slice (some ad371) l0_2.length c0_2)] 25 (0, 0))) ∧ Aside0 (Below w.heap.size w wc))
                      case first =>
                       as_aux_lemma =>
                        have H := HC89.out
                        clear HC89
                        by_cases c92 : x16_2 ≥ (l1.length : Int)
                        ·
                         rw [if_pos c92] at H
                         have c92b0 : decide ((l1.length : Int) ≤ x16_2) = true := decide_eq_true c92
                         clear c92
                         (first | rw [c92b0] | (simp only [i64_w, i32_w]; rw [c92b0]) | skip)
                         have H' := Aside0.mk H
                         clear H
                         go_wp2
                         go_meet
                         case rel => exact ⟨_, (true), (by first | rfl | (simp; done) | (simp [*]; done)), H', ⟨by have := HJ16.out; have := HK2.out; have := HJ56.out; have := HK4.out; first | omega | exact Nat.le_refl _⟩, ⟨by (try simp only [hl13_56]); (with_reducible repeat (first | apply Kd.R_alloc | apply Kd.R_drewN | apply Kd.R_drew)); exact HO_5.out⟩, ⟨by (try simp only [hl13_56]); (with_reducible repeat (first | apply Kd.S_alloc | apply Kd.S_drewN | apply Kd.S_drew)); exact HO_7.out⟩, ⟨by (try simp only [hl13_56]); (with_reducible repeat (first | apply Kd.R_alloc | apply Kd.R_drewN | apply Kd.R_drew)); exact Kd.R_mono HO_9.out (fun _ hk => hk.2)⟩, ⟨by (try simp only [hl13_56]); (with_reducible repeat (first | apply Kd.R_alloc | apply Kd.R_drewN | apply Kd.R_drew)); exact HO_11.out⟩, ⟨by (try simp only [hl13_56]); (with_reducible repeat (first | apply Kd.R_alloc | apply Kd.R_drewN | apply Kd.R_drew)); exact HO_13.out⟩, ⟨by (try simp only [hl13_56]); (with_reducible repeat (first | apply Kd.R_alloc | apply Kd.R_drewN | apply Kd.R_drew)); exact Kd.R_mono HO383.out (fun _ hk => hk.2)⟩, ⟨by (try simp only [hl13_56]); (with_reducible repeat (first | refine blk_drewN ?_ _ | refine blk_drew ?_ | refine blk_alloc ?_ _)); exact BK339.out⟩, ⟨by repeat (first | (with_reducible first | exact HB.out | apply below_alloc | apply pw_below_drewN | apply below_drew1 | refine below_set ?_ GE339.out) | exact HB.out)⟩⟩
                        ·
                         rw [if_neg c92] at H
                         have c92b0 : decide ((l1.length : Int) ≤ x16_2) = false := decide_eq_false c92
                         clear c92
                         (first | rw [c92b0] | (simp only [i64_w, i32_w]; rw [c92b0]) | skip)
                         have H' := Aside0.mk H
                         clear H
                         obtain ⟨Ao93, co93, eo93⟩ := Kd.R_slice HO383.out
                         subst eo93
                         go_wp2
                         go_meet
                         case rel => exact ⟨_, (((t381.length : Int) == 0)), (by first | rfl | (simp; done) | (simp [*]; done)), H', ⟨by have := HJ16.out; have := HK2.out; have := HJ56.out; have := HK4.out; first | omega | exact Nat.le_refl _⟩, ⟨by (try simp only [hl13_56]); (with_reducible repeat (first | apply Kd.R_alloc | apply Kd.R_drewN | apply Kd.R_drew)); exact HO_5.out⟩, ⟨by (try simp only [hl13_56]); (with_reducible repeat (first | apply Kd.S_alloc | apply Kd.S_drewN | apply Kd.S_drew)); exact HO_7.out⟩, ⟨by (try simp only [hl13_56]); (with_reducible repeat (first | apply Kd.R_alloc | apply Kd.R_drewN | apply Kd.R_drew)); exact Kd.R_mono HO_9.out (fun _ hk => hk.2)⟩, ⟨by (try simp only [hl13_56]); (with_reducible repeat (first | apply Kd.R_alloc | apply Kd.R_drewN | apply Kd.R_drew)); exact HO_11.out⟩, ⟨by (try simp only [hl13_56]); (with_reducible repeat (first | apply Kd.R_alloc | apply Kd.R_drewN | apply Kd.R_drew)); exact HO_13.out⟩, ⟨by (try simp only [hl13_56]); (with_reducible repeat (first | apply Kd.R_alloc | apply Kd.R_drewN | apply Kd.R_drew)); exact Kd.R_mono HO383.out (fun _ hk => hk.2)⟩, ⟨by (try simp only [hl13_56]); (with_reducible repeat (first | refine blk_drewN ?_ _ | refine blk_drew ?_ | refine blk_alloc ?_ _)); exact BK339.out⟩, ⟨by repeat (first | (with_reducible first | exact HB.out | apply below_alloc | apply pw_below_drewN | apply below_drew1 | refine below_set ?_ GE339.out) | exact HB.out)⟩⟩
                      case rest =>
                       clear HC89
                       try clear c1
                       try clear p2
                       try clear c3
                       try clear p3
                       try clear q3
                       try clear hx3
                       try clear c4
                       try clear c5
                       try clear p5
                       try clear q5
                       try clear hx5
                       try clear hf5
                       try clear c6
                       try clear p6
                       try clear q6
                       try clear c7
                       try clear c8
                       try clear c9
                       try clear c12
                       try clear c13
                       try clear c14
                       try clear c16
                       try clear c16b0
                       try clear c16b1
                       try clear c32
                       try clear c32b0
                       try clear c32b1
                       try clear c32b2
                       try clear c33
                       try clear c33b0
                       try clear c33b1
                       try clear c33b2
                       try clear c34
                       try clear c34b0
                       try clear c34b1
                       try clear c34b2
                       try clear p36
                       try clear q36
                       try clear hx36
                       try clear c37
                       try clear p37
                       try clear q37
                       try clear hx37
                       try clear c38
                       try clear p38
                       try clear q38
                       try clear hx38
                       try clear c48
                       try clear c49
                       try clear c49b0
                       try clear c49b1
                       try clear c50
                       try clear c50b0
                       try clear c50b1
                       try clear c51
                       try clear c53
                       try clear c54
                       try clear c54b0
                       try clear c55
                       try clear c55b0
                       try clear p56
                       try clear q56
                       try clear hx56
                       try clear hf56
                       try clear c60
                       try clear c60b0
                       try clear q61
                       try clear c62
                       try clear c63
                       try clear c63b0
                       try clear c64
                       try clear c64b0
                       try clear c64b1
                       try clear c64b2
                       try clear p64
                       try clear c67
                       try clear c67b0
                       try clear c68
                       try clear c68b0
                       try clear c69
                       try clear c69b0
                       try clear c70
                       try clear c70b0
                       try clear c78
                       try clear c79
                       try clear c79b0
                       try clear c80
                       try clear c80b0
                       try clear c81
                       try clear c81b0
                       try clear c82
                       try clear c82b0
                       try clear c83
                       try clear c83b0
                       try clear c83b1
                       try clear c85
                       try clear c85b0
                       try clear c85b1
                       try clear c92
                       try clear c92b0
                       try clear hcz19_0
                       try clear hcz19_1
                       try clear hcz19_2
                       try clear hcz24_0
                       try clear hcz24_1
                       try clear hcz24_2
                       try clear hcz26_0
                       try clear hcz26_1
                       try clear hcz26_2
                       try clear hcz28_0
                       try clear hcz28_1
                       try clear hcz28_2
                       try clear hcz30_0
                       try clear hcz30_1
                       try clear hcz30_2
                       try clear hcz36_0
                       try clear hcz36_1
                       try clear hcz36_2
                       try clear hcz40_0
                       try clear hcz40_1
                       try clear hcz40_2
                       try clear hcz44_0
                       try clear hcz44_1
                       try clear hcz44_2
                       try clear hcz47_0
                       try clear hcz47_1
                       try clear hcz47_2
                       try clear hcz51_0
                       try clear hcz51_1
                       try clear hcz51_2
                       try clear hcz7_0
                       try clear hcz7_1
                       try clear hcz7_2
                       try clear hcz84_0
                       try clear hcz84_1
                       try clear hcz84_2
                       try clear hcz86_0
                       try clear hcz86_1
                       try clear hcz86_2
                       try clear hcz87_0
                       try clear hcz87_1
                       try clear hcz87_2
                       try clear hcz90_0
                       try clear hcz90_1
                       try clear hcz90_2
                       try clear hfz19_0
                       try clear hfz19_1
                       try clear hfz19_2
                       try clear hfz24_0
                       try clear hfz24_1
                       try clear hfz24_2
                       try clear hfz26_0
                       try clear hfz26_1
                       try clear hfz26_2
                       try clear hfz28_0
                       try clear hfz28_1
                       try clear hfz28_2
                       try clear hfz30_0
                       try clear hfz30_1
                       try clear hfz30_2
                       try clear hfz36_0
                       try clear hfz36_1
                       try clear hfz36_2
                       try clear hfz40_0
                       try clear hfz40_1
                       try clear hfz40_2
                       try clear hfz44_0
                       try clear hfz44_1
                       try clear hfz44_2
                       try clear hfz47_0
                       try clear hfz47_1
                       try clear hfz47_2
                       try clear hfz51_0
                       try clear hfz51_1
                       try clear hfz51_2
                       try clear hfz7_0
                       try clear hfz7_1
                       try clear hfz7_2
                       try clear hfz84_0
                       try clear hfz84_1
                       try clear hfz84_2
                       try clear hfz86_0
                       try clear hfz86_1
                       try clear hfz86_2
                       try clear hfz87_0
                       try clear hfz87_1
                       try clear hfz87_2
                       try clear hfz90_0
                       try clear hfz90_1
                       try clear hfz90_2
                       try clear hx366_0
                       try clear hx367_0
                       try clear hx368_0
                       try clear hx369_0
                       try clear hx370_0
                       try clear hx371_0
                       try clear hx371_1
                       try clear hx371_2
                       try clear hx371_3
                       try clear hx371_4
                       try clear hx372_0
                       try clear hx372_1
                       try clear hx372_2
                       try clear hx372_3
                       try clear hx372_4
                       try clear hx373_0
                       try clear hx373_1
                       try clear hx373_2
                       try clear hx373_3
                       try clear hx373_4
                       try clear hx373_5
                       try clear hx374_0
                       try clear hx374_1
                       try clear hx374_2
                       try clear hx374_3
                       try clear hx374_4
                       try clear hx375_0
                       try clear hx375_1
                       try clear hx375_2
                       try clear hx375_3
                       try clear hx375_4
                       try clear hx375_5
                       try clear hx376_0
                       try clear hx376_1
                       try clear hx376_2
                       try clear hx376_3
                       try clear hx376_4
                       try clear hx377_0
                       try clear hx377_1
                       try clear hx377_2
                       try clear hx377_3
                       try clear hx377_4
                       try clear hx377_5
                       try clear hx378_0
                       try clear hx378_1
                       try clear hx378_2
                       try clear hx378_3
                       try clear hx378_4
                       try clear hx379_0
                       try clear hx379_1
                       try clear hx379_2
                       try clear hx379_3
                       try clear hx379_4
                       try clear hx379_5
                       try clear hx380_0
                       try clear hx380_1
                       try clear hx380_2
                       try clear hx380_3
                       try clear hx380_4
                       try clear hx56_0
                       try clear p2
                       try clear p3
                       try clear p36
                       try clear p366
                       try clear p367
                       try clear p368
                       try clear p369
                       try clear p37
                       try clear p370
                       try clear p371
                       try clear p372
                       try clear p373
                       try clear p374
                       try clear p375
                       try clear p376
                       try clear p377
                       try clear p378
                       try clear p379
                       try clear p380
                       try clear p5
                       try clear p56
                       try clear q3
                       try clear q36
                       try clear q366
                       try clear q367
                       try clear q368
                       try clear q369
                       try clear q37
                       try clear q370
                       try clear q371
                       try clear q372
                       try clear q373
                       try clear q374
                       try clear q375
                       try clear q376
                       try clear q377
                       try clear q378
                       try clear q379
                       try clear q380
                       try clear q5
                       try clear q56
                       try clear q6
                       try clear q61
                       obtain ⟨kq, x173_88, rfl, HA, HJ88, HO_5, HO_7, HO_9, HO_11, HO_13, HO_18, BK339, HB⟩ := hcut
                       cases kq with
                       | zero => exact absurd HA.out (by simp [turnstilelaw12_FlowWays.j4])
                       | succ kj88 =>
                        have H := HA.out
                        clear HA
                        simp only [turnstilelaw12_FlowWays.j4] at H
                        by_cases c94 : x173_88 = true
                        ·
                         subst c94
                         have H1 : ((turnstilelaw12_alive.f kj88).bind fun t384 => (some t384)) = some r := by rw [if_pos rfl] at H; exact H
                         clear H
                         have H := H1
                         clear H1
                         replace H := Option.bind_eq_some_iff.mp H
                         obtain ⟨t384, A950, H⟩ := H
                         replace H : (some t384) = some r := H
                         have A95 := Aside0.mk A950
                         clear A950
                         obtain rfl := Option.some.inj H
                         go_wp2_with (first | ((with_reducible refine gate_callee (f := 52) rfl ?_); refine goesL_ (some 174) rfl rfl Try.func52 (by kernel_rfl) rfl #[] rfl (by (try simp only [List.map_toArray, List.map_cons, List.map_nil]); first | done | rfl | (simp only [List.length_drop, List.length_take]; rfl)) ?_; (with_reducible refine (turnstilelaw12_alive.calls kj88  t384 _ A95.out).mono ?_); rintro e w96 ⟨rfl, hb⟩; refine ⟨_, rfl, ?_⟩; have n0_ := Aside0.mk (Kd.R_below (by (with_reducible repeat (first | apply Kd.R_alloc | apply Kd.R_drewN | apply Kd.R_drew)); exact HO_5.out) hb); have n1_ := Aside0.mk (Kd.S_below (by (with_reducible repeat (first | apply Kd.S_alloc | apply Kd.S_drewN | apply Kd.S_drew)); exact HO_7.out) hb); have n2_ := Aside0.mk (Kd.R_below (by (with_reducible repeat (first | apply Kd.R_alloc | apply Kd.R_drewN | apply Kd.R_drew)); exact HO_9.out) hb); have n3_ := Aside0.mk (Kd.R_below (by (with_reducible repeat (first | apply Kd.R_alloc | apply Kd.R_drewN | apply Kd.R_drew)); exact HO_11.out) hb); have n4_ := Aside0.mk (Kd.R_below (by (with_reducible repeat (first | apply Kd.R_alloc | apply Kd.R_drewN | apply Kd.R_drew)); exact HO_13.out) hb); have n5_ := Aside0.mk (Kd.R_below (by (with_reducible repeat (first | apply Kd.R_alloc | apply Kd.R_drewN | apply Kd.R_drew)); exact HO_18.out) hb); have n6_ := Aside0.mk (blk_below (g := gb339) (o := .cells #[.slice A0_0 l0_0.length c0_0, .int .i64 a0_1, .slice (some ad371) l0_2.length c0_2] 25 (0, 0)) (by (with_reducible repeat (first | refine blk_drewN ?_ _ | refine blk_drew ?_ | refine blk_alloc ?_ _)); exact BK339.out) hb); have n7_ := Aside0.mk (below_step (by repeat (first | (with_reducible first | exact HB.out | apply below_alloc | apply pw_below_drewN | apply below_drew1 | refine below_set ?_ GE339.out) | exact HB.out)) hb); clear HO_5; clear HO_7; clear HO_9; clear HO_11; clear HO_13; clear HO_18; clear BK339; clear HB; have HO_5 := n0_; have HO_7 := n1_; have HO_9 := n2_; have HO_11 := n3_; have HO_13 := n4_; have HO_18 := n5_; have BK339 := n6_; have HB := n7_; clear n0_ n1_ n2_ n3_ n4_ n5_ n6_ n7_; (try clear hb); (try clear hb2); (try clear hk); (try clear hi)))
                         go_ret
                         exact ⟨by first | rfl | (simp [errW_none, errW_some] <;> rfl) | (simp [*, errW_none, errW_some] <;> rfl), by repeat (first | (with_reducible first | exact HB.out | apply below_alloc | apply pw_below_drewN | apply below_drew1 | refine below_set ?_ GE339.out) | exact HB.out)⟩
                        ·
                         replace c94 := Bool.eq_false_iff.mpr c94
                         subst c94
                         have H1 : (if 0 < (t381.length : Int) then (if 0 ≤ x16_2 then (if x16_2 < (l1.length : Int) then (if (Int.tmod (rd l1 x16_2) 2) = 0 then (turnstilelaw12_FlowWays.j5 kj88 l1 t345 t349 t353 t357 y365 x14_2 x15_4 x16_2 t381 (rd t381 0) false l0_0 a0_1 l0_2) else (turnstilelaw12_FlowWays.j5 kj88 l1 t345 t349 t353 t357 y365 x14_2 x15_4 x16_2 t381 (rd t381 0) (decide ((t381.length : Int) > 1)) l0_0 a0_1 l0_2)) else (none)) else (none)) else (none)) = some r := by rw [if_neg (show ¬ (false = true) by decide)] at H; exact H
                         clear H
                         have H := H1
                         clear H1
                         by_cases c97 : 0 < (t381.length : Int)
                         ·
                          rw [if_pos c97] at H
                          have c97b0 : decide (0 < (t381.length : Int)) = true := decide_eq_true c97
                          have c97b1 : decide (0 < t381.length) = true := decide_eq_true (by omega)
                          clear c97
                          have HC98 := Aside0.mk H
                          clear H
                          obtain ⟨Ao99, co99, eo99⟩ := Kd.R_slice HO_18.out
                          subst eo99
                          have p385 : 0 ≤ (0 : Int) := (by omega)
                          have q385 : 0 < (t381.length : Int) := of_decide_eq_true (by first | (with_reducible assumption) | assumption)
                          obtain ⟨ad385, e385, hx385_0⟩ := Kd.at_int (Kd.R_reads' HO_18.out).2.2 0 p385 q385
                          cases e385
                          have qi385 : (0 < t381.length) = True := eq_true (by omega)
                          (try rw [show ((0 : Int)).toNat = 0 from rfl] at hx385_0)
                          (try rw [Addr.add_zero'] at hx385_0)
                          replace p385 := eq_true p385
                          replace q385 := eq_true q385
                          go_upto_region 27 with (fail)
                          go_cut [188] (fun v188 wc => ∃ (kq : Nat) (x188_97 : Bool), v188 = .bool x188_97 ∧ Aside0 (turnstilelaw12_FlowWays.j5 kq l1 t345 t349 t353 t357 y365 x14_2 x15_4 x16_2 t381 (rd t381 0) x188_97 l0_0 a0_1 l0_2 = some r) ∧ Aside0 (kq ≤ kj88) ∧ Aside0 (Kd.R Kd.bool 4 wc w.heap.size (fun k_ => some k_ ≠ (v358 : Value).ownBlock ∧ some k_ ≠ ((.slice (some ⟨go56, 0, none⟩) y365.length co56) : Value).ownBlock) v346 t345) ∧ Aside0 (Kd.S (Kd.slice 3 (Kd.int .i64)) 37 wc w.heap.size (fun k_ => some k_ ≠ (v354 : Value).ownBlock ∧ some k_ ≠ ((.slice (some ad385) t381.length co99) : Value).ownBlock) v350 t349) ∧ Aside0 (Kd.R (Kd.int .i64) 3 wc w.heap.size (fun k_ => some k_ ≠ ((.slice (some ad385) t381.length co99) : Value).ownBlock) v354 t353) ∧ Aside0 (Kd.R Kd.bool 4 wc w.heap.size (fun k_ => some k_ ≠ (v346 : Value).ownBlock ∧ some k_ ≠ ((.slice (some ⟨go56, 0, none⟩) y365.length co56) : Value).ownBlock) v358 t357) ∧ Aside0 (Kd.R Kd.bool 4 wc w.heap.size (fun k_ => some k_ ≠ (v346 : Value).ownBlock ∧ some k_ ≠ (v358 : Value).ownBlock) (.slice (some ⟨go56, 0, none⟩) y365.length co56) y365) ∧ Aside0 (Kd.R (Kd.int .i64) 3 wc w.heap.size (fun k_ => some k_ ≠ (v354 : Value).ownBlock) (.slice (some ad385) t381.length co99) t381) ∧ Aside0 (wc.heap[gb339]? = some (.cells #[(.slice A0_0 l0_0.length c0_0), .int .i64 a0_1, (.slice (some ad371) l0_2.length c0_2)] 25 (0, 0))) ∧ Aside0 (Below w.heap.size w wc))
                          case first =>
                           as_aux_lemma =>
                            have H := HC98.out
                            clear HC98
                            by_cases c100 : 0 ≤ x16_2
                            ·
                             rw [if_pos c100] at H
                             have c100b0 : decide (0 ≤ x16_2) = true := decide_eq_true c100
                             clear c100
                             (first | rw [c100b0] | (simp only [i64_w, i32_w]; rw [c100b0]) | skip)
                             by_cases c101 : x16_2 < (l1.length : Int)
                             ·
                              rw [if_pos c101] at H
                              have c101b0 : decide (x16_2 < (l1.length : Int)) = true := decide_eq_true c101
                              clear c101
                              by_cases c102 : (Int.tmod (rd l1 x16_2) 2) = 0
                              ·
                               rw [if_pos c102] at H
                               have c102b0 : ((Int.tmod (rd l1 x16_2) 2) == 0) = true := beq_iff_eq.mpr c102
                               have c102b1 : ((Int.tmod (rd l1 x16_2) 2) != 0) = false := bne_eq_false_iff_eq.mpr c102
                               clear c102
                               have H' := Aside0.mk H
                               clear H
                               have p386 : 0 ≤ (x16_2 : Int) := of_decide_eq_true (by first | (with_reducible assumption) | assumption)
                               have q386 : x16_2 < (l1.length : Int) := of_decide_eq_true (by first | (with_reducible assumption) | assumption)
                               obtain ⟨ad386, e386, hx386_0⟩ := Kd.at_int HR1.out x16_2 p386 q386
                               cases e386
                               replace hx386_0 := (HB.out.cell (World.block_lt_of_cell? w _ hx386_0)).trans hx386_0
                               replace p386 := eq_true p386
                               replace q386 := eq_true q386
                               go_wp2
                               go_meet
                               case rel => exact ⟨_, (false), (by first | rfl | (simp; done) | (simp [*]; done)), H', ⟨by have := HJ16.out; have := HK2.out; have := HJ56.out; have := HK4.out; have := HJ88.out; first | omega | exact Nat.le_refl _⟩, ⟨by (try simp only [hl13_56]); (with_reducible repeat (first | apply Kd.R_alloc | apply Kd.R_drewN | apply Kd.R_drew)); exact HO_5.out⟩, ⟨by (try simp only [hl13_56]); (with_reducible repeat (first | apply Kd.S_alloc | apply Kd.S_drewN | apply Kd.S_drew)); exact HO_7.out⟩, ⟨by (try simp only [hl13_56]); (with_reducible repeat (first | apply Kd.R_alloc | apply Kd.R_drewN | apply Kd.R_drew)); exact HO_9.out⟩, ⟨by (try simp only [hl13_56]); (with_reducible repeat (first | apply Kd.R_alloc | apply Kd.R_drewN | apply Kd.R_drew)); exact HO_11.out⟩, ⟨by (try simp only [hl13_56]); (with_reducible repeat (first | apply Kd.R_alloc | apply Kd.R_drewN | apply Kd.R_drew)); exact HO_13.out⟩, ⟨by (try simp only [hl13_56]); (with_reducible repeat (first | apply Kd.R_alloc | apply Kd.R_drewN | apply Kd.R_drew)); exact HO_18.out⟩, ⟨by (try simp only [hl13_56]); (with_reducible repeat (first | refine blk_drewN ?_ _ | refine blk_drew ?_ | refine blk_alloc ?_ _)); exact BK339.out⟩, ⟨by repeat (first | (with_reducible first | exact HB.out | apply below_alloc | apply pw_below_drewN | apply below_drew1 | refine below_set ?_ GE339.out) | exact HB.out)⟩⟩
                              ·
                               rw [if_neg c102] at H
                               have c102b0 : ((Int.tmod (rd l1 x16_2) 2) == 0) = false := beq_eq_false_iff_ne.mpr c102
                               have c102b1 : ((Int.tmod (rd l1 x16_2) 2) != 0) = true := bne_iff_ne.mpr c102
                               have H' := Aside0.mk H
                               clear H
                               have p386 : 0 ≤ (x16_2 : Int) := of_decide_eq_true (by first | (with_reducible assumption) | assumption)
                               have q386 : x16_2 < (l1.length : Int) := of_decide_eq_true (by first | (with_reducible assumption) | assumption)
                               obtain ⟨ad386, e386, hx386_0⟩ := Kd.at_int HR1.out x16_2 p386 q386
                               cases e386
                               replace hx386_0 := (HB.out.cell (World.block_lt_of_cell? w _ hx386_0)).trans hx386_0
                               replace p386 := eq_true p386
                               replace q386 := eq_true q386
                               go_wp2
                               go_meet
                               case rel => exact ⟨_, (decide ((t381.length : Int) > 1)), (by first | rfl | (simp; done) | (simp [*]; done)), H', ⟨by have := HJ16.out; have := HK2.out; have := HJ56.out; have := HK4.out; have := HJ88.out; first | omega | exact Nat.le_refl _⟩, ⟨by (try simp only [hl13_56]); (with_reducible repeat (first | apply Kd.R_alloc | apply Kd.R_drewN | apply Kd.R_drew)); exact HO_5.out⟩, ⟨by (try simp only [hl13_56]); (with_reducible repeat (first | apply Kd.S_alloc | apply Kd.S_drewN | apply Kd.S_drew)); exact HO_7.out⟩, ⟨by (try simp only [hl13_56]); (with_reducible repeat (first | apply Kd.R_alloc | apply Kd.R_drewN | apply Kd.R_drew)); exact HO_9.out⟩, ⟨by (try simp only [hl13_56]); (with_reducible repeat (first | apply Kd.R_alloc | apply Kd.R_drewN | apply Kd.R_drew)); exact HO_11.out⟩, ⟨by (try simp only [hl13_56]); (with_reducible repeat (first | apply Kd.R_alloc | apply Kd.R_drewN | apply Kd.R_drew)); exact HO_13.out⟩, ⟨by (try simp only [hl13_56]); (with_reducible repeat (first | apply Kd.R_alloc | apply Kd.R_drewN | apply Kd.R_drew)); exact HO_18.out⟩, ⟨by (try simp only [hl13_56]); (with_reducible repeat (first | refine blk_drewN ?_ _ | refine blk_drew ?_ | refine blk_alloc ?_ _)); exact BK339.out⟩, ⟨by repeat (first | (with_reducible first | exact HB.out | apply below_alloc | apply pw_below_drewN | apply below_drew1 | refine below_set ?_ GE339.out) | exact HB.out)⟩⟩
                             ·
                              rw [if_neg c101] at H
                              exact absurd H (by simp)
                            ·
                             rw [if_neg c100] at H
                             exact absurd H (by simp)
                          case rest =>
                           clear HC98
                           try clear c1
                           try clear p2
                           try clear c3
                           try clear p3
                           try clear q3
                           try clear hx3
                           try clear qi3
                           try clear c4
                           try clear c5
                           try clear p5
                           try clear q5
                           try clear hx5
                           try clear hf5
                           try clear c6
                           try clear p6
                           try clear q6
                           try clear c7
                           try clear c8
                           try clear c9
                           try clear c10
                           try clear c12
                           try clear c13
                           try clear c14
                           try clear c16
                           try clear c16b0
                           try clear c16b1
                           try clear c32
                           try clear c32b0
                           try clear c32b1
                           try clear c32b2
                           try clear c33
                           try clear c33b0
                           try clear c33b1
                           try clear c33b2
                           try clear c34
                           try clear c34b0
                           try clear c34b1
                           try clear c34b2
                           try clear p36
                           try clear q36
                           try clear hx36
                           try clear c37
                           try clear p37
                           try clear q37
                           try clear hx37
                           try clear c38
                           try clear p38
                           try clear q38
                           try clear hx38
                           try clear qi38
                           try clear c48
                           try clear c49
                           try clear c49b0
                           try clear c49b1
                           try clear c50
                           try clear c50b0
                           try clear c50b1
                           try clear c51
                           try clear c52
                           try clear c53
                           try clear c54
                           try clear c54b0
                           try clear c55
                           try clear c55b0
                           try clear p56
                           try clear q56
                           try clear hx56
                           try clear hf56
                           try clear c60
                           try clear c60b0
                           try clear q61
                           try clear c62
                           try clear c63
                           try clear c63b0
                           try clear c64
                           try clear c64b0
                           try clear c64b1
                           try clear c64b2
                           try clear p64
                           try clear c67
                           try clear c67b0
                           try clear c68
                           try clear c68b0
                           try clear c69
                           try clear c69b0
                           try clear c70
                           try clear c70b0
                           try clear c78
                           try clear c79
                           try clear c79b0
                           try clear c80
                           try clear c80b0
                           try clear c81
                           try clear c81b0
                           try clear c82
                           try clear c82b0
                           try clear c83
                           try clear c83b0
                           try clear c83b1
                           try clear c85
                           try clear c85b0
                           try clear c85b1
                           try clear c92
                           try clear c92b0
                           try clear c94
                           try clear c97
                           try clear c97b0
                           try clear c97b1
                           try clear c100
                           try clear c100b0
                           try clear c101
                           try clear c101b0
                           try clear c102
                           try clear c102b0
                           try clear c102b1
                           try clear hcz19_0
                           try clear hcz19_1
                           try clear hcz19_2
                           try clear hcz24_0
                           try clear hcz24_1
                           try clear hcz24_2
                           try clear hcz26_0
                           try clear hcz26_1
                           try clear hcz26_2
                           try clear hcz28_0
                           try clear hcz28_1
                           try clear hcz28_2
                           try clear hcz30_0
                           try clear hcz30_1
                           try clear hcz30_2
                           try clear hcz36_0
                           try clear hcz36_1
                           try clear hcz36_2
                           try clear hcz40_0
                           try clear hcz40_1
                           try clear hcz40_2
                           try clear hcz44_0
                           try clear hcz44_1
                           try clear hcz44_2
                           try clear hcz47_0
                           try clear hcz47_1
                           try clear hcz47_2
                           try clear hcz51_0
                           try clear hcz51_1
                           try clear hcz51_2
                           try clear hcz7_0
                           try clear hcz7_1
                           try clear hcz7_2
                           try clear hcz84_0
                           try clear hcz84_1
                           try clear hcz84_2
                           try clear hcz86_0
                           try clear hcz86_1
                           try clear hcz86_2
                           try clear hcz87_0
                           try clear hcz87_1
                           try clear hcz87_2
                           try clear hcz90_0
                           try clear hcz90_1
                           try clear hcz90_2
                           try clear hfz19_0
                           try clear hfz19_1
                           try clear hfz19_2
                           try clear hfz24_0
                           try clear hfz24_1
                           try clear hfz24_2
                           try clear hfz26_0
                           try clear hfz26_1
                           try clear hfz26_2
                           try clear hfz28_0
                           try clear hfz28_1
                           try clear hfz28_2
                           try clear hfz30_0
                           try clear hfz30_1
                           try clear hfz30_2
                           try clear hfz36_0
                           try clear hfz36_1
                           try clear hfz36_2
                           try clear hfz40_0
                           try clear hfz40_1
                           try clear hfz40_2
                           try clear hfz44_0
                           try clear hfz44_1
                           try clear hfz44_2
                           try clear hfz47_0
                           try clear hfz47_1
                           try clear hfz47_2
                           try clear hfz51_0
                           try clear hfz51_1
                           try clear hfz51_2
                           try clear hfz7_0
                           try clear hfz7_1
                           try clear hfz7_2
                           try clear hfz84_0
                           try clear hfz84_1
                           try clear hfz84_2
                           try clear hfz86_0
                           try clear hfz86_1
                           try clear hfz86_2
                           try clear hfz87_0
                           try clear hfz87_1
                           try clear hfz87_2
                           try clear hfz90_0
                           try clear hfz90_1
                           try clear hfz90_2
                           try clear hx366_0
                           try clear hx367_0
                           try clear hx368_0
                           try clear hx369_0
                           try clear hx370_0
                           try clear hx371_0
                           try clear hx371_1
                           try clear hx371_2
                           try clear hx371_3
                           try clear hx371_4
                           try clear hx372_0
                           try clear hx372_1
                           try clear hx372_2
                           try clear hx372_3
                           try clear hx372_4
                           try clear hx373_0
                           try clear hx373_1
                           try clear hx373_2
                           try clear hx373_3
                           try clear hx373_4
                           try clear hx373_5
                           try clear hx374_0
                           try clear hx374_1
                           try clear hx374_2
                           try clear hx374_3
                           try clear hx374_4
                           try clear hx375_0
                           try clear hx375_1
                           try clear hx375_2
                           try clear hx375_3
                           try clear hx375_4
                           try clear hx375_5
                           try clear hx376_0
                           try clear hx376_1
                           try clear hx376_2
                           try clear hx376_3
                           try clear hx376_4
                           try clear hx377_0
                           try clear hx377_1
                           try clear hx377_2
                           try clear hx377_3
                           try clear hx377_4
                           try clear hx377_5
                           try clear hx378_0
                           try clear hx378_1
                           try clear hx378_2
                           try clear hx378_3
                           try clear hx378_4
                           try clear hx379_0
                           try clear hx379_1
                           try clear hx379_2
                           try clear hx379_3
                           try clear hx379_4
                           try clear hx379_5
                           try clear hx380_0
                           try clear hx380_1
                           try clear hx380_2
                           try clear hx380_3
                           try clear hx380_4
                           try clear hx385_0
                           try clear hx386_0
                           try clear hx56_0
                           try clear p2
                           try clear p3
                           try clear p36
                           try clear p366
                           try clear p367
                           try clear p368
                           try clear p369
                           try clear p37
                           try clear p370
                           try clear p371
                           try clear p372
                           try clear p373
                           try clear p374
                           try clear p375
                           try clear p376
                           try clear p377
                           try clear p378
                           try clear p379
                           try clear p38
                           try clear p380
                           try clear p385
                           try clear p386
                           try clear p5
                           try clear p56
                           try clear p6
                           try clear p64
                           try clear q3
                           try clear q36
                           try clear q366
                           try clear q367
                           try clear q368
                           try clear q369
                           try clear q37
                           try clear q370
                           try clear q371
                           try clear q372
                           try clear q373
                           try clear q374
                           try clear q375
                           try clear q376
                           try clear q377
                           try clear q378
                           try clear q379
                           try clear q38
                           try clear q380
                           try clear q385
                           try clear q386
                           try clear q5
                           try clear q56
                           try clear q6
                           try clear q61
                           obtain ⟨kq, x188_97, rfl, HA, HJ97, HO_5, HO_7, HO_9, HO_11, HO_13, HO_18, BK339, HB⟩ := hcut
                           cases kq with
                           | zero => exact absurd HA.out (by simp [turnstilelaw12_FlowWays.j5])
                           | succ kj97 =>
                            have H := HA.out
                            clear HA
                            simp only [turnstilelaw12_FlowWays.j5] at H
                            have HC103 := Aside0.mk H
                            clear H
                            go_upto_if 188 with (fail)
                            go_cut [19] (fun v19 wc => ∃ (kq : Nat) (x19_102 : Int), v19 = .int .i64 x19_102 ∧ Aside0 (turnstilelaw12_FlowWays.j6 kq l1 t345 t349 t353 t357 y365 x14_2 x15_4 x16_2 x19_102 l0_0 a0_1 l0_2 = some r) ∧ Aside0 (kq ≤ kj97) ∧ Aside0 (Kd.R Kd.bool 4 wc w.heap.size (fun k_ => some k_ ≠ (v358 : Value).ownBlock ∧ some k_ ≠ ((.slice (some ⟨go56, 0, none⟩) y365.length co56) : Value).ownBlock) v346 t345) ∧ Aside0 (Kd.S (Kd.slice 3 (Kd.int .i64)) 37 wc w.heap.size (fun k_ => some k_ ≠ (v354 : Value).ownBlock) v350 t349) ∧ Aside0 (Kd.R (Kd.int .i64) 3 wc w.heap.size (fun _ => True) v354 t353) ∧ Aside0 (Kd.R Kd.bool 4 wc w.heap.size (fun k_ => some k_ ≠ (v346 : Value).ownBlock ∧ some k_ ≠ ((.slice (some ⟨go56, 0, none⟩) y365.length co56) : Value).ownBlock) v358 t357) ∧ Aside0 (Kd.R Kd.bool 4 wc w.heap.size (fun k_ => some k_ ≠ (v346 : Value).ownBlock ∧ some k_ ≠ (v358 : Value).ownBlock) (.slice (some ⟨go56, 0, none⟩) y365.length co56) y365) ∧ Aside0 (wc.heap[gb339]? = some (.cells #[(.slice A0_0 l0_0.length c0_0), .int .i64 a0_1, (.slice (some ad371) l0_2.length c0_2)] 25 (0, 0))) ∧ Aside0 (Below w.heap.size w wc))
                            case first =>
                             as_aux_lemma =>
                              have H := HC103.out
                              clear HC103
                              by_cases c104 : x188_97 = true
                              ·
                               subst c104
                               have H1 : (if 1 < (t381.length : Int) then (turnstilelaw12_FlowWays.j6 kj97 l1 t345 t349 t353 t357 y365 x14_2 x15_4 x16_2 (rd t381 1) l0_0 a0_1 l0_2) else (none)) = some r := by rw [if_pos rfl] at H; exact H
                               clear H
                               have H := H1
                               clear H1
                               by_cases c105 : 1 < (t381.length : Int)
                               ·
                                rw [if_pos c105] at H
                                have c105b0 : decide (1 < (t381.length : Int)) = true := decide_eq_true c105
                                have c105b1 : decide (1 < t381.length) = true := decide_eq_true (by omega)
                                clear c105
                                (first | rw [c105b0] | (simp only [i64_w, i32_w]; rw [c105b0]) | skip)
                                have H' := Aside0.mk H
                                clear H
                                have p387 : 0 ≤ (1 : Int) := (by omega)
                                have q387 : 1 < (t381.length : Int) := of_decide_eq_true (by first | (with_reducible assumption) | assumption)
                                obtain ⟨ad387, e387, hx387_0⟩ := Kd.at_int (Kd.R_reads' HO_18.out).2.2 1 p387 q387
                                obtain rfl : ad385 = ad387 := (by injection e387)
                                (try simp only [show (1 : Int).toNat = 1 from rfl, Nat.reduceMul, Nat.reduceEqDiff, Go.Addr.add, ↓reduceIte] at hx387_0)
                                have qi387 : (1 < t381.length) = True := eq_true (by omega)
                                (try rw [show ((1 : Int)).toNat = 1 from rfl] at hx387_0)
                                replace p387 := eq_true p387
                                replace q387 := eq_true q387
                                go_wp2
                                go_meet
                                case rel => exact ⟨_, (rd t381 1), (by first | rfl | (simp; done) | (simp [*]; done)), H', ⟨by have := HJ16.out; have := HK2.out; have := HJ56.out; have := HK4.out; have := HJ88.out; have := HJ97.out; first | omega | exact Nat.le_refl _⟩, ⟨by (try simp only [hl13_56]); (with_reducible repeat (first | apply Kd.R_alloc | apply Kd.R_drewN | apply Kd.R_drew)); exact HO_5.out⟩, ⟨by (try simp only [hl13_56]); (with_reducible repeat (first | apply Kd.S_alloc | apply Kd.S_drewN | apply Kd.S_drew)); exact Kd.S_mono HO_7.out (fun _ hk => hk.1)⟩, ⟨by (try simp only [hl13_56]); (with_reducible repeat (first | apply Kd.R_alloc | apply Kd.R_drewN | apply Kd.R_drew)); exact Kd.R_mono HO_9.out (fun _ hk => trivial)⟩, ⟨by (try simp only [hl13_56]); (with_reducible repeat (first | apply Kd.R_alloc | apply Kd.R_drewN | apply Kd.R_drew)); exact HO_11.out⟩, ⟨by (try simp only [hl13_56]); (with_reducible repeat (first | apply Kd.R_alloc | apply Kd.R_drewN | apply Kd.R_drew)); exact HO_13.out⟩, ⟨by (try simp only [hl13_56]); (with_reducible repeat (first | refine blk_drewN ?_ _ | refine blk_drew ?_ | refine blk_alloc ?_ _)); exact BK339.out⟩, ⟨by repeat (first | (with_reducible first | exact HB.out | apply below_alloc | apply pw_below_drewN | apply below_drew1 | refine below_set ?_ GE339.out) | exact HB.out)⟩⟩
                               ·
                                rw [if_neg c105] at H
                                exact absurd H (by simp)
                              ·
                               replace c104 := Bool.eq_false_iff.mpr c104
                               subst c104
                               have H1 : (turnstilelaw12_FlowWays.j6 kj97 l1 t345 t349 t353 t357 y365 x14_2 x15_4 x16_2 (rd t381 0) l0_0 a0_1 l0_2) = some r := by rw [if_neg (show ¬ (false = true) by decide)] at H; exact H
                               clear H
                               have H := H1
                               clear H1
                               have H' := Aside0.mk H
                               clear H
                               go_wp2
                               go_meet
                               case rel => exact ⟨_, ((rd t381 0)), (by first | rfl | (simp; done) | (simp [*]; done)), H', ⟨by have := HJ16.out; have := HK2.out; have := HJ56.out; have := HK4.out; have := HJ88.out; have := HJ97.out; first | omega | exact Nat.le_refl _⟩, ⟨by (try simp only [hl13_56]); (with_reducible repeat (first | apply Kd.R_alloc | apply Kd.R_drewN | apply Kd.R_drew)); exact HO_5.out⟩, ⟨by (try simp only [hl13_56]); (with_reducible repeat (first | apply Kd.S_alloc | apply Kd.S_drewN | apply Kd.S_drew)); exact Kd.S_mono HO_7.out (fun _ hk => hk.1)⟩, ⟨by (try simp only [hl13_56]); (with_reducible repeat (first | apply Kd.R_alloc | apply Kd.R_drewN | apply Kd.R_drew)); exact Kd.R_mono HO_9.out (fun _ hk => trivial)⟩, ⟨by (try simp only [hl13_56]); (with_reducible repeat (first | apply Kd.R_alloc | apply Kd.R_drewN | apply Kd.R_drew)); exact HO_11.out⟩, ⟨by (try simp only [hl13_56]); (with_reducible repeat (first | apply Kd.R_alloc | apply Kd.R_drewN | apply Kd.R_drew)); exact HO_13.out⟩, ⟨by (try simp only [hl13_56]); (with_reducible repeat (first | refine blk_drewN ?_ _ | refine blk_drew ?_ | refine blk_alloc ?_ _)); exact BK339.out⟩, ⟨by repeat (first | (with_reducible first | exact HB.out | apply below_alloc | apply pw_below_drewN | apply below_drew1 | refine below_set ?_ GE339.out) | exact HB.out)⟩⟩
                            case rest =>
                             clear HC103
                             try clear c1
                             try clear p2
                             try clear c3
                             try clear p3
                             try clear q3
                             try clear hx3
                             try clear qi3
                             try clear c4
                             try clear c5
                             try clear p5
                             try clear q5
                             try clear hx5
                             try clear hf5
                             try clear c6
                             try clear p6
                             try clear q6
                             try clear c7
                             try clear c8
                             try clear c9
                             try clear c10
                             try clear c12
                             try clear c13
                             try clear c14
                             try clear c16
                             try clear c16b0
                             try clear c16b1
                             try clear c32
                             try clear c32b0
                             try clear c32b1
                             try clear c32b2
                             try clear c33
                             try clear c33b0
                             try clear c33b1
                             try clear c33b2
                             try clear c34
                             try clear c34b0
                             try clear c34b1
                             try clear c34b2
                             try clear p36
                             try clear q36
                             try clear hx36
                             try clear c37
                             try clear p37
                             try clear q37
                             try clear hx37
                             try clear c38
                             try clear p38
                             try clear q38
                             try clear hx38
                             try clear qi38
                             try clear c48
                             try clear c49
                             try clear c49b0
                             try clear c49b1
                             try clear c50
                             try clear c50b0
                             try clear c50b1
                             try clear c51
                             try clear c52
                             try clear c53
                             try clear c54
                             try clear c54b0
                             try clear c55
                             try clear c55b0
                             try clear p56
                             try clear q56
                             try clear hx56
                             try clear hf56
                             try clear c60
                             try clear c60b0
                             try clear q61
                             try clear c62
                             try clear c63
                             try clear c63b0
                             try clear c64
                             try clear c64b0
                             try clear c64b1
                             try clear c64b2
                             try clear p64
                             try clear c67
                             try clear c67b0
                             try clear c68
                             try clear c68b0
                             try clear c69
                             try clear c69b0
                             try clear c70
                             try clear c70b0
                             try clear c78
                             try clear c79
                             try clear c79b0
                             try clear c80
                             try clear c80b0
                             try clear c81
                             try clear c81b0
                             try clear c82
                             try clear c82b0
                             try clear c83
                             try clear c83b0
                             try clear c83b1
                             try clear c85
                             try clear c85b0
                             try clear c85b1
                             try clear c92
                             try clear c92b0
                             try clear c94
                             try clear c97
                             try clear c97b0
                             try clear c97b1
                             try clear c100
                             try clear c100b0
                             try clear c101
                             try clear c101b0
                             try clear c102
                             try clear c102b0
                             try clear c102b1
                             try clear c104
                             try clear c105
                             try clear c105b0
                             try clear c105b1
                             try clear hcz19_0
                             try clear hcz19_1
                             try clear hcz19_2
                             try clear hcz24_0
                             try clear hcz24_1
                             try clear hcz24_2
                             try clear hcz26_0
                             try clear hcz26_1
                             try clear hcz26_2
                             try clear hcz28_0
                             try clear hcz28_1
                             try clear hcz28_2
                             try clear hcz30_0
                             try clear hcz30_1
                             try clear hcz30_2
                             try clear hcz36_0
                             try clear hcz36_1
                             try clear hcz36_2
                             try clear hcz40_0
                             try clear hcz40_1
                             try clear hcz40_2
                             try clear hcz44_0
                             try clear hcz44_1
                             try clear hcz44_2
                             try clear hcz47_0
                             try clear hcz47_1
                             try clear hcz47_2
                             try clear hcz51_0
                             try clear hcz51_1
                             try clear hcz51_2
                             try clear hcz7_0
                             try clear hcz7_1
                             try clear hcz7_2
                             try clear hcz84_0
                             try clear hcz84_1
                             try clear hcz84_2
                             try clear hcz86_0
                             try clear hcz86_1
                             try clear hcz86_2
                             try clear hcz87_0
                             try clear hcz87_1
                             try clear hcz87_2
                             try clear hcz90_0
                             try clear hcz90_1
                             try clear hcz90_2
                             try clear hfz19_0
                             try clear hfz19_1
                             try clear hfz19_2
                             try clear hfz24_0
                             try clear hfz24_1
                             try clear hfz24_2
                             try clear hfz26_0
                             try clear hfz26_1
                             try clear hfz26_2
                             try clear hfz28_0
                             try clear hfz28_1
                             try clear hfz28_2
                             try clear hfz30_0
                             try clear hfz30_1
                             try clear hfz30_2
                             try clear hfz36_0
                             try clear hfz36_1
                             try clear hfz36_2
                             try clear hfz40_0
                             try clear hfz40_1
                             try clear hfz40_2
                             try clear hfz44_0
                             try clear hfz44_1
                             try clear hfz44_2
                             try clear hfz47_0
                             try clear hfz47_1
                             try clear hfz47_2
                             try clear hfz51_0
                             try clear hfz51_1
                             try clear hfz51_2
                             try clear hfz7_0
                             try clear hfz7_1
                             try clear hfz7_2
                             try clear hfz84_0
                             try clear hfz84_1
                             try clear hfz84_2
                             try clear hfz86_0
                             try clear hfz86_1
                             try clear hfz86_2
                             try clear hfz87_0
                             try clear hfz87_1
                             try clear hfz87_2
                             try clear hfz90_0
                             try clear hfz90_1
                             try clear hfz90_2
                             try clear hx366_0
                             try clear hx367_0
                             try clear hx368_0
                             try clear hx369_0
                             try clear hx370_0
                             try clear hx371_0
                             try clear hx371_1
                             try clear hx371_2
                             try clear hx371_3
                             try clear hx371_4
                             try clear hx372_0
                             try clear hx372_1
                             try clear hx372_2
                             try clear hx372_3
                             try clear hx372_4
                             try clear hx373_0
                             try clear hx373_1
                             try clear hx373_2
                             try clear hx373_3
                             try clear hx373_4
                             try clear hx373_5
                             try clear hx374_0
                             try clear hx374_1
                             try clear hx374_2
                             try clear hx374_3
                             try clear hx374_4
                             try clear hx375_0
                             try clear hx375_1
                             try clear hx375_2
                             try clear hx375_3
                             try clear hx375_4
                             try clear hx375_5
                             try clear hx376_0
                             try clear hx376_1
                             try clear hx376_2
                             try clear hx376_3
                             try clear hx376_4
                             try clear hx377_0
                             try clear hx377_1
                             try clear hx377_2
                             try clear hx377_3
                             try clear hx377_4
                             try clear hx377_5
                             try clear hx378_0
                             try clear hx378_1
                             try clear hx378_2
                             try clear hx378_3
                             try clear hx378_4
                             try clear hx379_0
                             try clear hx379_1
                             try clear hx379_2
                             try clear hx379_3
                             try clear hx379_4
                             try clear hx379_5
                             try clear hx380_0
                             try clear hx380_1
                             try clear hx380_2
                             try clear hx380_3
                             try clear hx380_4
                             try clear hx385_0
                             try clear hx386_0
                             try clear hx387_0
                             try clear hx56_0
                             try clear p2
                             try clear p3
                             try clear p36
                             try clear p366
                             try clear p367
                             try clear p368
                             try clear p369
                             try clear p37
                             try clear p370
                             try clear p371
                             try clear p372
                             try clear p373
                             try clear p374
                             try clear p375
                             try clear p376
                             try clear p377
                             try clear p378
                             try clear p379
                             try clear p38
                             try clear p380
                             try clear p385
                             try clear p386
                             try clear p387
                             try clear p5
                             try clear p56
                             try clear p6
                             try clear p64
                             try clear q3
                             try clear q36
                             try clear q366
                             try clear q367
                             try clear q368
                             try clear q369
                             try clear q37
                             try clear q370
                             try clear q371
                             try clear q372
                             try clear q373
                             try clear q374
                             try clear q375
                             try clear q376
                             try clear q377
                             try clear q378
                             try clear q379
                             try clear q38
                             try clear q380
                             try clear q385
                             try clear q386
                             try clear q387
                             try clear q5
                             try clear q56
                             try clear q6
                             try clear q61
                             obtain ⟨kq, x19_102, rfl, HA, HJ102, HO_5, HO_7, HO_9, HO_11, HO_13, BK339, HB⟩ := hcut
                             cases kq with
                             | zero => exact absurd HA.out (by simp [turnstilelaw12_FlowWays.j6])
                             | succ kj102 =>
                              have H := HA.out
                              clear HA
                              simp only [turnstilelaw12_FlowWays.j6] at H
                              have H' := Aside0.mk H
                              clear H
                              go_wp2
                              go_loopg [20, 21] kj102 (fun kq v20 v21 w' => ∃ (x20_8 : Bool) (x21_8 : Int), v20 = .bool x20_8 ∧ v21 = .int .i64 x21_8 ∧ Aside0 (turnstilelaw12_FlowWays.l2 kq l1 t345 t349 t353 t357 y365 x14_2 x15_4 x16_2 x19_102 x20_8 x21_8 l0_0 a0_1 l0_2 = some r) ∧ Aside0 (kq ≤ kj102) ∧ Aside0 (Kd.R Kd.bool 4 w' w.heap.size (fun k_ => some k_ ≠ (v358 : Value).ownBlock ∧ some k_ ≠ ((.slice (some ⟨go56, 0, none⟩) y365.length co56) : Value).ownBlock) v346 t345) ∧ Aside0 (Kd.S (Kd.slice 3 (Kd.int .i64)) 37 w' w.heap.size (fun k_ => some k_ ≠ (v354 : Value).ownBlock) v350 t349) ∧ Aside0 (Kd.R (Kd.int .i64) 3 w' w.heap.size (fun _ => True) v354 t353) ∧ Aside0 (Kd.R Kd.bool 4 w' w.heap.size (fun k_ => some k_ ≠ (v346 : Value).ownBlock ∧ some k_ ≠ ((.slice (some ⟨go56, 0, none⟩) y365.length co56) : Value).ownBlock) v358 t357) ∧ Aside0 (Kd.R Kd.bool 4 w' w.heap.size (fun k_ => some k_ ≠ (v346 : Value).ownBlock ∧ some k_ ≠ (v358 : Value).ownBlock) (.slice (some ⟨go56, 0, none⟩) y365.length co56) y365) ∧ Aside0 (w'.heap[gb339]? = some (.cells #[(.slice A0_0 l0_0.length c0_0), .int .i64 a0_1, (.slice (some ad371) l0_2.length c0_2)] 25 (0, 0))) ∧ Aside0 (Below w.heap.size w w'))
                              case atStart => exact ⟨(false), (0), (by first | rfl | (simp; done) | (simp [*]; done)), (by first | rfl | (simp; done) | (simp [*]; done)), H', ⟨Nat.le_refl _⟩, ⟨by (try simp only [hl13_56]); (with_reducible repeat (first | apply Kd.R_alloc | apply Kd.R_drewN | apply Kd.R_drew)); exact HO_5.out⟩, ⟨by (try simp only [hl13_56]); (with_reducible repeat (first | apply Kd.S_alloc | apply Kd.S_drewN | apply Kd.S_drew)); exact HO_7.out⟩, ⟨by (try simp only [hl13_56]); (with_reducible repeat (first | apply Kd.R_alloc | apply Kd.R_drewN | apply Kd.R_drew)); exact HO_9.out⟩, ⟨by (try simp only [hl13_56]); (with_reducible repeat (first | apply Kd.R_alloc | apply Kd.R_drewN | apply Kd.R_drew)); exact HO_11.out⟩, ⟨by (try simp only [hl13_56]); (with_reducible repeat (first | apply Kd.R_alloc | apply Kd.R_drewN | apply Kd.R_drew)); exact HO_13.out⟩, ⟨by (try simp only [hl13_56]); (with_reducible repeat (first | refine blk_drewN ?_ _ | refine blk_drew ?_ | refine blk_alloc ?_ _)); exact BK339.out⟩, ⟨by repeat (first | (with_reducible first | exact HB.out | apply below_alloc | apply pw_below_drewN | apply below_drew1 | refine below_set ?_ GE339.out) | exact HB.out)⟩⟩
                              case round =>
                               as_aux_lemma =>
                                clear H'
                                try clear c1
                                try clear p2
                                try clear c3
                                try clear p3
                                try clear q3
                                try clear hx3
                                try clear qi3
                                try clear c4
                                try clear c5
                                try clear p5
                                try clear q5
                                try clear hx5
                                try clear hf5
                                try clear c6
                                try clear p6
                                try clear q6
                                try clear c7
                                try clear c8
                                try clear c9
                                try clear c10
                                try clear c12
                                try clear c13
                                try clear c14
                                try clear c16
                                try clear c16b0
                                try clear c16b1
                                try clear c32
                                try clear c32b0
                                try clear c32b1
                                try clear c32b2
                                try clear c33
                                try clear c33b0
                                try clear c33b1
                                try clear c33b2
                                try clear c34
                                try clear c34b0
                                try clear c34b1
                                try clear c34b2
                                try clear p36
                                try clear q36
                                try clear hx36
                                try clear c37
                                try clear p37
                                try clear q37
                                try clear hx37
                                try clear c38
                                try clear p38
                                try clear q38
                                try clear hx38
                                try clear qi38
                                try clear c48
                                try clear c49
                                try clear c49b0
                                try clear c49b1
                                try clear c50
                                try clear c50b0
                                try clear c50b1
                                try clear c51
                                try clear c52
                                try clear c53
                                try clear c54
                                try clear c54b0
                                try clear c55
                                try clear c55b0
                                try clear p56
                                try clear q56
                                try clear hx56
                                try clear hf56
                                try clear c60
                                try clear c60b0
                                try clear q61
                                try clear c62
                                try clear c63
                                try clear c63b0
                                try clear c64
                                try clear c64b0
                                try clear c64b1
                                try clear c64b2
                                try clear p64
                                try clear c67
                                try clear c67b0
                                try clear c68
                                try clear c68b0
                                try clear c69
                                try clear c69b0
                                try clear c70
                                try clear c70b0
                                try clear c78
                                try clear c79
                                try clear c79b0
                                try clear c80
                                try clear c80b0
                                try clear c81
                                try clear c81b0
                                try clear c82
                                try clear c82b0
                                try clear c83
                                try clear c83b0
                                try clear c83b1
                                try clear c85
                                try clear c85b0
                                try clear c85b1
                                try clear c92
                                try clear c92b0
                                try clear c94
                                try clear c97
                                try clear c97b0
                                try clear c97b1
                                try clear c100
                                try clear c100b0
                                try clear c101
                                try clear c101b0
                                try clear c102
                                try clear c102b0
                                try clear c102b1
                                try clear c104
                                try clear c105
                                try clear c105b0
                                try clear c105b1
                                try clear hcz19_0
                                try clear hcz19_1
                                try clear hcz19_2
                                try clear hcz24_0
                                try clear hcz24_1
                                try clear hcz24_2
                                try clear hcz26_0
                                try clear hcz26_1
                                try clear hcz26_2
                                try clear hcz28_0
                                try clear hcz28_1
                                try clear hcz28_2
                                try clear hcz30_0
                                try clear hcz30_1
                                try clear hcz30_2
                                try clear hcz36_0
                                try clear hcz36_1
                                try clear hcz36_2
                                try clear hcz40_0
                                try clear hcz40_1
                                try clear hcz40_2
                                try clear hcz44_0
                                try clear hcz44_1
                                try clear hcz44_2
                                try clear hcz47_0
                                try clear hcz47_1
                                try clear hcz47_2
                                try clear hcz51_0
                                try clear hcz51_1
                                try clear hcz51_2
                                try clear hcz7_0
                                try clear hcz7_1
                                try clear hcz7_2
                                try clear hcz84_0
                                try clear hcz84_1
                                try clear hcz84_2
                                try clear hcz86_0
                                try clear hcz86_1
                                try clear hcz86_2
                                try clear hcz87_0
                                try clear hcz87_1
                                try clear hcz87_2
                                try clear hcz90_0
                                try clear hcz90_1
                                try clear hcz90_2
                                try clear hfz19_0
                                try clear hfz19_1
                                try clear hfz19_2
                                try clear hfz24_0
                                try clear hfz24_1
                                try clear hfz24_2
                                try clear hfz26_0
                                try clear hfz26_1
                                try clear hfz26_2
                                try clear hfz28_0
                                try clear hfz28_1
                                try clear hfz28_2
                                try clear hfz30_0
                                try clear hfz30_1
                                try clear hfz30_2
                                try clear hfz36_0
                                try clear hfz36_1
                                try clear hfz36_2
                                try clear hfz40_0
                                try clear hfz40_1
                                try clear hfz40_2
                                try clear hfz44_0
                                try clear hfz44_1
                                try clear hfz44_2
                                try clear hfz47_0
                                try clear hfz47_1
                                try clear hfz47_2
                                try clear hfz51_0
                                try clear hfz51_1
                                try clear hfz51_2
                                try clear hfz7_0
                                try clear hfz7_1
                                try clear hfz7_2
                                try clear hfz84_0
                                try clear hfz84_1
                                try clear hfz84_2
                                try clear hfz86_0
                                try clear hfz86_1
                                try clear hfz86_2
                                try clear hfz87_0
                                try clear hfz87_1
                                try clear hfz87_2
                                try clear hfz90_0
                                try clear hfz90_1
                                try clear hfz90_2
                                try clear hx366_0
                                try clear hx367_0
                                try clear hx368_0
                                try clear hx369_0
                                try clear hx370_0
                                try clear hx371_0
                                try clear hx371_1
                                try clear hx371_2
                                try clear hx371_3
                                try clear hx371_4
                                try clear hx372_0
                                try clear hx372_1
                                try clear hx372_2
                                try clear hx372_3
                                try clear hx372_4
                                try clear hx373_0
                                try clear hx373_1
                                try clear hx373_2
                                try clear hx373_3
                                try clear hx373_4
                                try clear hx373_5
                                try clear hx374_0
                                try clear hx374_1
                                try clear hx374_2
                                try clear hx374_3
                                try clear hx374_4
                                try clear hx375_0
                                try clear hx375_1
                                try clear hx375_2
                                try clear hx375_3
                                try clear hx375_4
                                try clear hx375_5
                                try clear hx376_0
                                try clear hx376_1
                                try clear hx376_2
                                try clear hx376_3
                                try clear hx376_4
                                try clear hx377_0
                                try clear hx377_1
                                try clear hx377_2
                                try clear hx377_3
                                try clear hx377_4
                                try clear hx377_5
                                try clear hx378_0
                                try clear hx378_1
                                try clear hx378_2
                                try clear hx378_3
                                try clear hx378_4
                                try clear hx379_0
                                try clear hx379_1
                                try clear hx379_2
                                try clear hx379_3
                                try clear hx379_4
                                try clear hx379_5
                                try clear hx380_0
                                try clear hx380_1
                                try clear hx380_2
                                try clear hx380_3
                                try clear hx380_4
                                try clear hx385_0
                                try clear hx386_0
                                try clear hx387_0
                                try clear hx56_0
                                try clear p2
                                try clear p3
                                try clear p36
                                try clear p366
                                try clear p367
                                try clear p368
                                try clear p369
                                try clear p37
                                try clear p370
                                try clear p371
                                try clear p372
                                try clear p373
                                try clear p374
                                try clear p375
                                try clear p376
                                try clear p377
                                try clear p378
                                try clear p379
                                try clear p38
                                try clear p380
                                try clear p385
                                try clear p386
                                try clear p387
                                try clear p5
                                try clear p56
                                try clear p6
                                try clear p64
                                try clear q3
                                try clear q36
                                try clear q366
                                try clear q367
                                try clear q368
                                try clear q369
                                try clear q37
                                try clear q370
                                try clear q371
                                try clear q372
                                try clear q373
                                try clear q374
                                try clear q375
                                try clear q376
                                try clear q377
                                try clear q378
                                try clear q379
                                try clear q38
                                try clear q380
                                try clear q385
                                try clear q386
                                try clear q387
                                try clear q5
                                try clear q56
                                try clear q6
                                try clear q61
                                obtain ⟨x20_8, x21_8, rfl, rfl, HA, HK8, HO_5, HO_7, HO_9, HO_11, HO_13, BK339, HB⟩ := hrel
                                cases gk with
                                | zero => exact absurd HA.out (by simp [turnstilelaw12_FlowWays.l2])
                                | succ k8 =>
                                 have H := HA.out
                                 clear HA
                                 simp only [turnstilelaw12_FlowWays.l2] at H
                                 by_cases c106 : 0 ≤ x19_102
                                 ·
                                  rw [if_pos c106] at H
                                  have c106b0 : decide (0 ≤ x19_102) = true := decide_eq_true c106
                                  clear c106
                                  by_cases c107 : x19_102 < (t349.length : Int)
                                  ·
                                   rw [if_pos c107] at H
                                   have c107b0 : decide (x19_102 < (t349.length : Int)) = true := decide_eq_true c107
                                   clear c107
                                   by_cases c108 : x21_8 < ((rd_L13 t349 x19_102).length : Int)
                                   ·
                                    rw [if_pos c108] at H
                                    have c108b0 : decide (x21_8 < ((rd_L13 t349 x19_102).length : Int)) = true := decide_eq_true c108
                                    clear c108
                                    by_cases c109 : x20_8 = true
                                    ·
                                     subst c109
                                     have H1 : (turnstilelaw12_FlowWays.l2 k8 l1 t345 t349 t353 t357 y365 x14_2 x15_4 x16_2 x19_102 true (wrap64 (x21_8 + 1)) l0_0 a0_1 l0_2) = some r := by rw [if_pos rfl] at H; exact H
                                     clear H
                                     have H := H1
                                     clear H1
                                     have H' := Aside0.mk H
                                     clear H
                                     obtain ⟨Ao110, co110, eo110⟩ := Kd.S_slice HO_7.out
                                     subst eo110
                                     have p388 : 0 ≤ (x19_102 : Int) := of_decide_eq_true (by first | (with_reducible assumption) | assumption)
                                     have q388 : x19_102 < (t349.length : Int) := of_decide_eq_true (by first | (with_reducible assumption) | assumption)
                                     obtain ⟨ad388, A388_0, c388_0, e388, hx388_0, hl388_0, hi388_0⟩ := at_L13 (Kd.S_reads' HO_7.out).2.2 x19_102 p388 q388
                                     cases e388
                                     obtain ⟨ce388, hce388, hMe388, hcc388⟩ := Kd.S_get HO_7.out [] x19_102 p388 (by first | exact q388 | exact of_decide_eq_true (by first | (with_reducible assumption) | assumption) | (have e_ := (Kd.S_reads' HO_7.out).1; omega))
                                     obtain ⟨ve388_0, rfl, ge388_0⟩ := hMe388
                                     have hv388_0 := hcc388 0 _ rfl
                                     rw [Nat.add_zero, show ((Kd.slice 3 (Kd.int .i64))).sz = 1 from rfl, Nat.mul_one] at hv388_0
                                     replace hv388_0 := Option.some.inj (hv388_0.symm.trans hx388_0)
                                     rw [hv388_0] at ge388_0
                                     have HL388_0 := Aside0.mk (show Kd.R (Kd.int .i64) 3 _ _ _ _ (rd_L13 t349 x19_102) from ge388_0)
                                     clear hv388_0 ge388_0
                                     clear hcc388 hce388
                                     have HR388_0 := Aside0.mk hi388_0
                                     have HC388_0 := Aside0.mk hl388_0
                                     clear hi388_0 hl388_0
                                     replace p388 := eq_true p388
                                     replace q388 := eq_true q388
                                     go_wp2
                                     go_roundg k8
                                     case measure => have := HJ16.out; have := HK2.out; have := HJ56.out; have := HK4.out; have := HJ88.out; have := HJ97.out; have := HJ102.out; have := HK8.out; omega
                                     case rel => exact ⟨(true), (wrap64 (x21_8 + 1)), (by first | rfl | (simp; done) | (simp [*]; done)), (by first | rfl | (simp; done) | (simp [*]; done)), H', ⟨by have := HJ16.out; have := HK2.out; have := HJ56.out; have := HK4.out; have := HJ88.out; have := HJ97.out; have := HJ102.out; have := HK8.out; omega⟩, ⟨by (try simp only [hl13_56]); (with_reducible repeat (first | apply Kd.R_alloc | apply Kd.R_drewN | apply Kd.R_drew)); exact HO_5.out⟩, ⟨by (try simp only [hl13_56]); (with_reducible repeat (first | apply Kd.S_alloc | apply Kd.S_drewN | apply Kd.S_drew)); exact HO_7.out⟩, ⟨by (try simp only [hl13_56]); (with_reducible repeat (first | apply Kd.R_alloc | apply Kd.R_drewN | apply Kd.R_drew)); exact HO_9.out⟩, ⟨by (try simp only [hl13_56]); (with_reducible repeat (first | apply Kd.R_alloc | apply Kd.R_drewN | apply Kd.R_drew)); exact HO_11.out⟩, ⟨by (try simp only [hl13_56]); (with_reducible repeat (first | apply Kd.R_alloc | apply Kd.R_drewN | apply Kd.R_drew)); exact HO_13.out⟩, ⟨by (try simp only [hl13_56]); (with_reducible repeat (first | refine blk_drewN ?_ _ | refine blk_drew ?_ | refine blk_alloc ?_ _)); exact BK339.out⟩, ⟨by repeat (first | (with_reducible first | exact HB.out | apply below_alloc | apply pw_below_drewN | apply below_drew1 | refine below_set ?_ GE339.out) | exact HB.out)⟩⟩
                                    ·
                                     replace c109 := Bool.eq_false_iff.mpr c109
                                     subst c109
                                     have H1 : (if 0 ≤ x21_8 then (turnstilelaw12_FlowWays.l2 k8 l1 t345 t349 t353 t357 y365 x14_2 x15_4 x16_2 x19_102 ((rd (rd_L13 t349 x19_102) x21_8) == x14_2) (wrap64 (x21_8 + 1)) l0_0 a0_1 l0_2) else (none)) = some r := by rw [if_neg (show ¬ (false = true) by decide)] at H; exact H
                                     clear H
                                     have H := H1
                                     clear H1
                                     by_cases c111 : 0 ≤ x21_8
                                     ·
                                      rw [if_pos c111] at H
                                      have c111b0 : decide (0 ≤ x21_8) = true := decide_eq_true c111
                                      clear c111
                                      have H' := Aside0.mk H
                                      clear H
                                      obtain ⟨Ao112, co112, eo112⟩ := Kd.S_slice HO_7.out
                                      subst eo112
                                      have p388 : 0 ≤ (x19_102 : Int) := of_decide_eq_true (by first | (with_reducible assumption) | assumption)
                                      have q388 : x19_102 < (t349.length : Int) := of_decide_eq_true (by first | (with_reducible assumption) | assumption)
                                      obtain ⟨ad388, A388_0, c388_0, e388, hx388_0, hl388_0, hi388_0⟩ := at_L13 (Kd.S_reads' HO_7.out).2.2 x19_102 p388 q388
                                      cases e388
                                      obtain ⟨ce388, hce388, hMe388, hcc388⟩ := Kd.S_get HO_7.out [] x19_102 p388 (by first | exact q388 | exact of_decide_eq_true (by first | (with_reducible assumption) | assumption) | (have e_ := (Kd.S_reads' HO_7.out).1; omega))
                                      obtain ⟨ve388_0, rfl, ge388_0⟩ := hMe388
                                      have hv388_0 := hcc388 0 _ rfl
                                      rw [Nat.add_zero, show ((Kd.slice 3 (Kd.int .i64))).sz = 1 from rfl, Nat.mul_one] at hv388_0
                                      replace hv388_0 := Option.some.inj (hv388_0.symm.trans hx388_0)
                                      rw [hv388_0] at ge388_0
                                      have HL388_0 := Aside0.mk (show Kd.R (Kd.int .i64) 3 _ _ _ _ (rd_L13 t349 x19_102) from ge388_0)
                                      clear hv388_0 ge388_0
                                      clear hcc388 hce388
                                      have HR388_0 := Aside0.mk hi388_0
                                      have HC388_0 := Aside0.mk hl388_0
                                      clear hi388_0 hl388_0
                                      replace p388 := eq_true p388
                                      replace q388 := eq_true q388
                                      have p389 : 0 ≤ (x19_102 : Int) := of_decide_eq_true (by first | (with_reducible assumption) | assumption)
                                      have q389 : x19_102 < (t349.length : Int) := of_decide_eq_true (by first | (with_reducible assumption) | assumption)
                                      obtain ⟨ad389, A389_0, c389_0, e389, hx389_0, hl389_0, hi389_0⟩ := at_L13 (Kd.S_reads' HO_7.out).2.2 x19_102 p389 q389
                                      obtain rfl : ad388 = ad389 := (by injection e389)
                                      obtain ⟨ce389, hce389, hMe389, hcc389⟩ := Kd.S_get HO_7.out [] x19_102 p389 (by first | exact q389 | exact of_decide_eq_true (by first | (with_reducible assumption) | assumption) | (have e_ := (Kd.S_reads' HO_7.out).1; omega))
                                      obtain ⟨ve389_0, rfl, ge389_0⟩ := hMe389
                                      have hv389_0 := hcc389 0 _ rfl
                                      rw [Nat.add_zero, show ((Kd.slice 3 (Kd.int .i64))).sz = 1 from rfl, Nat.mul_one] at hv389_0
                                      replace hv389_0 := Option.some.inj (hv389_0.symm.trans hx389_0)
                                      rw [hv389_0] at ge389_0
                                      have HL389_0 := Aside0.mk (show Kd.R (Kd.int .i64) 3 _ _ _ _ (rd_L13 t349 x19_102) from ge389_0)
                                      clear hv389_0 ge389_0
                                      clear hcc389 hce389
                                      have HR389_0 := Aside0.mk hi389_0
                                      have HC389_0 := Aside0.mk hl389_0
                                      clear hi389_0 hl389_0
                                      replace p389 := eq_true p389
                                      replace q389 := eq_true q389
                                      have ea_ := Option.some.inj (hx388_0.symm.trans hx389_0)
                                      injection ea_ with ea_ en_ ec_
                                      subst ea_
                                      subst ec_
                                      clear en_
                                      have p390 : 0 ≤ (x21_8 : Int) := of_decide_eq_true (by first | (with_reducible assumption) | assumption)
                                      have q390 : x21_8 < ((rd_L13 t349 x19_102).length : Int) := of_decide_eq_true (by first | (with_reducible assumption) | assumption)
                                      obtain ⟨ad390, e390, hx390_0⟩ := Kd.at_int (by repeat (first | (with_reducible exact HR389_0.out) | (with_reducible refine Kd.C_alloc ?_ _) | (with_reducible refine Kd.C_drewN ?_ _) | (with_reducible refine Kd.C_drew ?_) | exact HR389_0.out)) x21_8 p390 q390
                                      cases e390
                                      replace p390 := eq_true p390
                                      replace q390 := eq_true q390
                                      go_wp2
                                      go_roundg k8
                                      case measure => have := HJ16.out; have := HK2.out; have := HJ56.out; have := HK4.out; have := HJ88.out; have := HJ97.out; have := HJ102.out; have := HK8.out; omega
                                      case rel => exact ⟨(((rd (rd_L13 t349 x19_102) x21_8) == x14_2)), (wrap64 (x21_8 + 1)), (by first | rfl | (simp; done) | (simp [*]; done)), (by first | rfl | (simp; done) | (simp [*]; done)), H', ⟨by have := HJ16.out; have := HK2.out; have := HJ56.out; have := HK4.out; have := HJ88.out; have := HJ97.out; have := HJ102.out; have := HK8.out; omega⟩, ⟨by (try simp only [hl13_56]); (with_reducible repeat (first | apply Kd.R_alloc | apply Kd.R_drewN | apply Kd.R_drew)); exact HO_5.out⟩, ⟨by (try simp only [hl13_56]); (with_reducible repeat (first | apply Kd.S_alloc | apply Kd.S_drewN | apply Kd.S_drew)); exact HO_7.out⟩, ⟨by (try simp only [hl13_56]); (with_reducible repeat (first | apply Kd.R_alloc | apply Kd.R_drewN | apply Kd.R_drew)); exact HO_9.out⟩, ⟨by (try simp only [hl13_56]); (with_reducible repeat (first | apply Kd.R_alloc | apply Kd.R_drewN | apply Kd.R_drew)); exact HO_11.out⟩, ⟨by (try simp only [hl13_56]); (with_reducible repeat (first | apply Kd.R_alloc | apply Kd.R_drewN | apply Kd.R_drew)); exact HO_13.out⟩, ⟨by (try simp only [hl13_56]); (with_reducible repeat (first | refine blk_drewN ?_ _ | refine blk_drew ?_ | refine blk_alloc ?_ _)); exact BK339.out⟩, ⟨by repeat (first | (with_reducible first | exact HB.out | apply below_alloc | apply pw_below_drewN | apply below_drew1 | refine below_set ?_ GE339.out) | exact HB.out)⟩⟩
                                     ·
                                      rw [if_neg c111] at H
                                      exact absurd H (by simp)
                                   ·
                                    rw [if_neg c108] at H
                                    have c108b0 : decide (x21_8 < ((rd_L13 t349 x19_102).length : Int)) = false := decide_eq_false c108
                                    clear c108
                                    by_cases c113 : x20_8 = true
                                    ·
                                     subst c113
                                     have H1 : (turnstilelaw12_FlowWays.l0 k8 l1 t345 t349 t353 t357 y365 x19_102 x15_4 (wrap64 (x16_2 + 1)) l0_0 a0_1 l0_2) = some r := by rw [if_pos rfl] at H; exact H
                                     clear H
                                     have H := H1
                                     clear H1
                                     have H' := Aside0.mk H
                                     clear H
                                     obtain ⟨Ao114, co114, eo114⟩ := Kd.S_slice HO_7.out
                                     subst eo114
                                     have p388 : 0 ≤ (x19_102 : Int) := of_decide_eq_true (by first | (with_reducible assumption) | assumption)
                                     have q388 : x19_102 < (t349.length : Int) := of_decide_eq_true (by first | (with_reducible assumption) | assumption)
                                     obtain ⟨ad388, A388_0, c388_0, e388, hx388_0, hl388_0, hi388_0⟩ := at_L13 (Kd.S_reads' HO_7.out).2.2 x19_102 p388 q388
                                     cases e388
                                     obtain ⟨ce388, hce388, hMe388, hcc388⟩ := Kd.S_get HO_7.out [] x19_102 p388 (by first | exact q388 | exact of_decide_eq_true (by first | (with_reducible assumption) | assumption) | (have e_ := (Kd.S_reads' HO_7.out).1; omega))
                                     obtain ⟨ve388_0, rfl, ge388_0⟩ := hMe388
                                     have hv388_0 := hcc388 0 _ rfl
                                     rw [Nat.add_zero, show ((Kd.slice 3 (Kd.int .i64))).sz = 1 from rfl, Nat.mul_one] at hv388_0
                                     replace hv388_0 := Option.some.inj (hv388_0.symm.trans hx388_0)
                                     rw [hv388_0] at ge388_0
                                     have HL388_0 := Aside0.mk (show Kd.R (Kd.int .i64) 3 _ _ _ _ (rd_L13 t349 x19_102) from ge388_0)
                                     clear hv388_0 ge388_0
                                     clear hcc388 hce388
                                     have HR388_0 := Aside0.mk hi388_0
                                     have HC388_0 := Aside0.mk hl388_0
                                     clear hi388_0 hl388_0
                                     replace p388 := eq_true p388
                                     replace q388 := eq_true q388
                                     go_wp2
                                     (try simp only [← hl13_56])
                                     go_roundg k8
                                     case measure => have := HJ16.out; have := HK2.out; have := HJ56.out; have := HK4.out; have := HJ88.out; have := HJ97.out; have := HJ102.out; have := HK8.out; omega
                                     case rel => exact ⟨(y365), (x19_102), (x15_4), (wrap64 (x16_2 + 1)), (by first | rfl | (simp; done) | (simp [*]; done)), (by first | rfl | (simp; done) | (simp [*]; done)), (by first | rfl | (simp; done) | (simp [*]; done)), H', ⟨by have := HJ16.out; have := HK2.out; have := HJ56.out; have := HK4.out; have := HJ88.out; have := HJ97.out; have := HJ102.out; have := HK8.out; omega⟩, ⟨by (try simp only [hl13_56]); (with_reducible repeat (first | apply Kd.R_alloc | apply Kd.R_drewN | apply Kd.R_drew)); exact HO_5.out⟩, ⟨by (try simp only [hl13_56]); (with_reducible repeat (first | apply Kd.S_alloc | apply Kd.S_drewN | apply Kd.S_drew)); exact HO_7.out⟩, ⟨by (try simp only [hl13_56]); (with_reducible repeat (first | apply Kd.R_alloc | apply Kd.R_drewN | apply Kd.R_drew)); exact HO_9.out⟩, ⟨by (try simp only [hl13_56]); (with_reducible repeat (first | apply Kd.R_alloc | apply Kd.R_drewN | apply Kd.R_drew)); exact HO_11.out⟩, ⟨by (try simp only [hl13_56]); (with_reducible repeat (first | apply Kd.R_alloc | apply Kd.R_drewN | apply Kd.R_drew)); exact HO_13.out⟩, ⟨by (try simp only [hl13_56]); (with_reducible repeat (first | refine blk_drewN ?_ _ | refine blk_drew ?_ | refine blk_alloc ?_ _)); exact BK339.out⟩, ⟨by repeat (first | (with_reducible first | exact HB.out | apply below_alloc | apply pw_below_drewN | apply below_drew1 | refine below_set ?_ GE339.out) | exact HB.out)⟩⟩
                                    ·
                                     replace c113 := Bool.eq_false_iff.mpr c113
                                     subst c113
                                     have H1 : (some false) = some r := by rw [if_neg (show ¬ (false = true) by decide)] at H; exact H
                                     clear H
                                     have H := H1
                                     clear H1
                                     obtain rfl := Option.some.inj H
                                     obtain ⟨Ao115, co115, eo115⟩ := Kd.S_slice HO_7.out
                                     subst eo115
                                     have p388 : 0 ≤ (x19_102 : Int) := of_decide_eq_true (by first | (with_reducible assumption) | assumption)
                                     have q388 : x19_102 < (t349.length : Int) := of_decide_eq_true (by first | (with_reducible assumption) | assumption)
                                     obtain ⟨ad388, A388_0, c388_0, e388, hx388_0, hl388_0, hi388_0⟩ := at_L13 (Kd.S_reads' HO_7.out).2.2 x19_102 p388 q388
                                     cases e388
                                     obtain ⟨ce388, hce388, hMe388, hcc388⟩ := Kd.S_get HO_7.out [] x19_102 p388 (by first | exact q388 | exact of_decide_eq_true (by first | (with_reducible assumption) | assumption) | (have e_ := (Kd.S_reads' HO_7.out).1; omega))
                                     obtain ⟨ve388_0, rfl, ge388_0⟩ := hMe388
                                     have hv388_0 := hcc388 0 _ rfl
                                     rw [Nat.add_zero, show ((Kd.slice 3 (Kd.int .i64))).sz = 1 from rfl, Nat.mul_one] at hv388_0
                                     replace hv388_0 := Option.some.inj (hv388_0.symm.trans hx388_0)
                                     rw [hv388_0] at ge388_0
                                     have HL388_0 := Aside0.mk (show Kd.R (Kd.int .i64) 3 _ _ _ _ (rd_L13 t349 x19_102) from ge388_0)
                                     clear hv388_0 ge388_0
                                     clear hcc388 hce388
                                     have HR388_0 := Aside0.mk hi388_0
                                     have HC388_0 := Aside0.mk hl388_0
                                     clear hi388_0 hl388_0
                                     replace p388 := eq_true p388
                                     replace q388 := eq_true q388
                                     go_wp2
                                     go_ret
                                     exact ⟨by first | rfl | (simp [errW_none, errW_some] <;> rfl) | (simp [*, errW_none, errW_some] <;> rfl), by repeat (first | (with_reducible first | exact HB.out | apply below_alloc | apply pw_below_drewN | apply below_drew1 | refine below_set ?_ GE339.out) | exact HB.out)⟩
                                  ·
                                   rw [if_neg c107] at H
                                   exact absurd H (by simp)
                                 ·
                                  rw [if_neg c106] at H
                                  exact absurd H (by simp)
                         ·
                          rw [if_neg c97] at H
                          exact absurd H (by simp)
                    ·
                     rw [if_neg c80] at H
                     exact absurd H (by simp)
                   ·
                    rw [if_neg c79] at H
                    exact absurd H (by simp)
            ·
             rw [if_neg c55] at H
             exact absurd H (by simp)
           ·
            rw [if_neg c54] at H
            exact absurd H (by simp)
       ·
        rw [if_neg c50] at H
        exact absurd H (by simp)
      ·
       rw [if_neg c49] at H
       exact absurd H (by simp)
  ·
   rw [if_neg c16] at H
   have c16b0 : (t348 == 0) = false := beq_eq_false_iff_ne.mpr c16
   have c16b1 : (t348 != 0) = true := bne_iff_ne.mpr c16
   replace H := Option.bind_eq_some_iff.mp H
   obtain ⟨t361, A1160, H⟩ := H
   replace H : (some t361) = some r := H
   have A116 := Aside0.mk A1160
   clear A1160
   obtain rfl := Option.some.inj H
   go_enter Try.func12, Try.ntmps12
   go_wp2_with (first | ((with_reducible refine gate_dst (N := 2) rfl ?_); (try (refine gate_guard (by rfl) ?_; dsimp only)); refine box_event ?hg (N := 2) ?hd (cs := #[.slice A0_0 l0_0.length c0_0, .int .i64 a0_1, .slice A0_2 l0_2.length c0_2]) (t := 25) ?hr ?_; (case hd => rfl); (case hg => rfl); (case hr => first | (go_simp; done) | (go_simp; rfl)); intro gb339 hg w117 hbox hb; have n0_ := Aside0.mk (below_step (by repeat (first | (with_reducible first | exact HB.out | apply below_alloc | apply pw_below_drewN | apply below_drew1) | exact HB.out)) hb); have n1_ := Aside0.mk (hbox); have n2_ := Aside0.mk ((by rw [hg]; exact (below_size (by repeat (first | (with_reducible first | exact HB.out | apply below_alloc | apply pw_below_drewN | apply below_drew1) | exact HB.out))) : w.heap.size ≤ gb339)); have n3_ := Aside0.mk ((by rw [hg]; exact (below_size (by repeat (first | (with_reducible first | exact HB.out | apply below_alloc | apply pw_below_drewN | apply below_drew1) | exact HB.out))) : w.heap.size ≤ gb339)); clear HB; have HB := n0_; have BK339 := n1_; have GW339 := n2_; have GE339 := n3_; clear n0_ n1_ n2_ n3_; clear hb hbox hg; have hcz118_0 : w117.cell? ⟨gb339, 0, none⟩ = some (.slice A0_0 l0_0.length c0_0) := (blk_cell BK339.out 0).trans rfl; have hcz118_1 : w117.cell? ⟨gb339, 1, none⟩ = some (.int .i64 a0_1) := (blk_cell BK339.out 1).trans rfl; have hcz118_2 : w117.cell? ⟨gb339, 2, none⟩ = some (.slice A0_2 l0_2.length c0_2) := (blk_cell BK339.out 2).trans rfl; have hfz118_0 := blk_frozen BK339.out 0; have hfz118_1 := blk_frozen BK339.out 1; have hfz118_2 := blk_frozen BK339.out 2) | ((with_reducible refine gate_callee (f := 14) rfl ?_); refine goesL_ (some 23) rfl rfl Try.func14 (by kernel_rfl) rfl #[.agg #[.slice A0_0 l0_0.length c0_0, .int .i64 a0_1, .slice A0_2 l0_2.length c0_2]] rfl (by (try simp only [List.map_toArray, List.map_cons, List.map_nil]); first | done | rfl | (simp only [List.length_drop, List.length_take]; rfl)) ?_; (with_reducible refine (turnstilelaw01_GraphSize.calls k _ _ l0_0 a0_1 _ _ l0_2 t340 _ ?side1 ?side2 ?side3 ?side4 A3.out).mono ?_); (case side1 => repeat (first | exact (Kd.C_below HR0_0.out HB.out) | (with_reducible refine Kd.C_alloc ?_ _) | (with_reducible refine Kd.C_drewN ?_ _) | (with_reducible refine Kd.C_drew ?_))); (case side2 => exact HC0_0.out); (case side3 => repeat (first | exact (Kd.C_below HR0_2.out HB.out) | (with_reducible refine Kd.C_alloc ?_ _) | (with_reducible refine Kd.C_drewN ?_ _) | (with_reducible refine Kd.C_drew ?_))); (case side4 => exact HC0_2.out); rintro e w119 ⟨rfl, hb⟩; refine ⟨_, rfl, ?_⟩; have n0_ := Aside0.mk (blk_below (g := gb339) (o := .cells #[.slice A0_0 l0_0.length c0_0, .int .i64 a0_1, .slice A0_2 l0_2.length c0_2] 25 (0, 0)) (by (with_reducible repeat (first | refine blk_drewN ?_ _ | refine blk_drew ?_ | refine blk_alloc ?_ _)); exact BK339.out) hb); have n1_ := Aside0.mk (below_step (by repeat (first | (with_reducible first | exact HB.out | apply below_alloc | apply pw_below_drewN | apply below_drew1 | refine below_set ?_ GE339.out) | exact HB.out)) hb); clear BK339; clear HB; have BK339 := n0_; have HB := n1_; clear n0_ n1_; (try clear hb); (try clear hb2); (try clear hk); (try clear hi)) | ((with_reducible refine gate_dst (N := 24) rfl ?_); (try (refine gate_guard (by rfl) ?_; dsimp only)); refine Kd.R_lit (Kd.int .i64) _ 3 ?hg (N := 24) ?hd (xs := ([t340] : List Int)) (inner := [.int .i64 t340]) (ok := fun _ => True) (okp := fun _ => True) ?hr ?hp (fun _ hk => hk) trivial (Below.refl _ _) (Nat.le_refl _) (by simp) ?_; (case hd => rfl); (case hg => rfl); (case hr => first | (go_simp; done) | (go_simp; rfl)); (case hp => exact (Reps.one (show Kd.M (Kd.int .i64) _ _ _ t340 [.int .i64 t340] from rfl) (Reps.none _ _))); intro v342 w120 ho121 hb hg_ hnew_; clear hg_ hnew_; (first | rw [← Ny341.out] at ho121 | (simp only [Int.reduceToNat] at ho121; rw [← Ny341.out] at ho121)); have n0_ := Aside0.mk (Kd.R_lower ho121 (below_size (by repeat (first | (with_reducible first | exact HB.out | apply below_alloc | apply pw_below_drewN | apply below_drew1 | refine below_set ?_ GE339.out) | exact HB.out)))); have n1_ := Aside0.mk (blk_below (g := gb339) (o := .cells #[.slice A0_0 l0_0.length c0_0, .int .i64 a0_1, .slice A0_2 l0_2.length c0_2] 25 (0, 0)) (by (with_reducible repeat (first | refine blk_drewN ?_ _ | refine blk_drew ?_ | refine blk_alloc ?_ _)); exact BK339.out) hb); have n2_ := Aside0.mk (below_step (by repeat (first | (with_reducible first | exact HB.out | apply below_alloc | apply pw_below_drewN | apply below_drew1 | refine below_set ?_ GE339.out) | exact HB.out)) hb); clear BK339; clear HB; have HO343 := n0_; have BK339 := n1_; have HB := n2_; clear n0_ n1_ n2_; clear hb ho121; obtain ⟨Ao122, co122, eo122⟩ := Kd.R_slice HO343.out; subst eo122) | ((with_reducible refine gate_callee (f := 13) rfl ?_); refine goesL_ (some 25) rfl rfl Try.func13 (by kernel_rfl) rfl #[.slice Ao122 y341.length co122] rfl (by (try simp only [List.map_toArray, List.map_cons, List.map_nil]); first | done | rfl | (simp only [List.length_drop, List.length_take]; rfl)) ?_; (with_reducible refine (turnstilelaw01_Beyond.calls k _ _ y341 false _ ?side1 ?side2 A4.out).mono ?_); (case side1 => repeat (first | exact (Kd.R_reads' HO343.out).2.2 | (with_reducible refine Kd.C_alloc ?_ _) | (with_reducible refine Kd.C_drewN ?_ _) | (with_reducible refine Kd.C_drew ?_))); (case side2 => exact (Kd.R_reads' HO343.out).2.1); rintro e w' ⟨rfl, ⟨nd, rfl⟩⟩; refine ⟨_, rfl, ?_⟩; have hcz123_0 : w120.cell? ⟨gb339, 0, none⟩ = some (.slice A0_0 l0_0.length c0_0) := (blk_cell BK339.out 0).trans rfl; have hcz123_1 : w120.cell? ⟨gb339, 1, none⟩ = some (.int .i64 a0_1) := (blk_cell BK339.out 1).trans rfl; have hcz123_2 : w120.cell? ⟨gb339, 2, none⟩ = some (.slice A0_2 l0_2.length c0_2) := (blk_cell BK339.out 2).trans rfl; have hfz123_0 := blk_frozen BK339.out 0; have hfz123_1 := blk_frozen BK339.out 1; have hfz123_2 := blk_frozen BK339.out 2) | ((with_reducible refine gate_callee (f := 49) rfl ?_); refine goesL_ (some 28) rfl rfl Try.func49 (by kernel_rfl) rfl #[.agg #[.slice A0_0 l0_0.length c0_0, .int .i64 a0_1, .slice A0_2 l0_2.length c0_2]] rfl (by (try simp only [List.map_toArray, List.map_cons, List.map_nil]); first | done | rfl | (simp only [List.length_drop, List.length_take]; rfl)) ?_; (with_reducible refine (flow_Reach.calls k _ _ l0_0 a0_1 _ _ l0_2 t345 t348 _ ?side1 ?side2 ?side3 ?side4 A12.out).mono ?_); (case side1 => repeat (first | exact (Kd.C_below HR0_0.out (by repeat (first | (with_reducible first | exact HB.out | apply below_alloc | apply pw_below_drewN | apply below_drew1 | refine below_set ?_ GE339.out) | exact HB.out))) | (with_reducible refine Kd.C_alloc ?_ _) | (with_reducible refine Kd.C_drewN ?_ _) | (with_reducible refine Kd.C_drew ?_))); (case side2 => exact HC0_0.out); (case side3 => repeat (first | exact (Kd.C_below HR0_2.out (by repeat (first | (with_reducible first | exact HB.out | apply below_alloc | apply pw_below_drewN | apply below_drew1 | refine below_set ?_ GE339.out) | exact HB.out))) | (with_reducible refine Kd.C_alloc ?_ _) | (with_reducible refine Kd.C_drewN ?_ _) | (with_reducible refine Kd.C_drew ?_))); (case side4 => exact HC0_2.out); rintro e w124 ⟨v346, rfl, ho0, hb⟩; refine ⟨_, rfl, ?_⟩; have n0_ := Aside0.mk (Kd.R_below (by (with_reducible repeat (first | apply Kd.R_alloc | apply Kd.R_drewN | apply Kd.R_drew)); exact HO343.out) hb); have n1_ := Aside0.mk (Kd.R_lower ho0 (below_size (by repeat (first | (with_reducible first | exact HB.out | apply below_alloc | apply pw_below_drewN | apply below_drew1 | refine below_set ?_ GE339.out) | exact HB.out)))); have n2_ := Aside0.mk (blk_below (g := gb339) (o := .cells #[.slice A0_0 l0_0.length c0_0, .int .i64 a0_1, .slice A0_2 l0_2.length c0_2] 25 (0, 0)) (by (with_reducible repeat (first | refine blk_drewN ?_ _ | refine blk_drew ?_ | refine blk_alloc ?_ _)); exact BK339.out) hb); have n3_ := Aside0.mk (below_step (by repeat (first | (with_reducible first | exact HB.out | apply below_alloc | apply pw_below_drewN | apply below_drew1 | refine below_set ?_ GE339.out) | exact HB.out)) hb); clear HO343; clear BK339; clear HB; have HO343 := n0_; have HO347 := n1_; have BK339 := n2_; have HB := n3_; clear n0_ n1_ n2_ n3_; (try clear hb); (try clear hb2); (try clear hk); (try clear hi); (try clear ho0); have hcz125_0 : w124.cell? ⟨gb339, 0, none⟩ = some (.slice A0_0 l0_0.length c0_0) := (blk_cell BK339.out 0).trans rfl; have hcz125_1 : w124.cell? ⟨gb339, 1, none⟩ = some (.int .i64 a0_1) := (blk_cell BK339.out 1).trans rfl; have hcz125_2 : w124.cell? ⟨gb339, 2, none⟩ = some (.slice A0_2 l0_2.length c0_2) := (blk_cell BK339.out 2).trans rfl; have hfz125_0 := blk_frozen BK339.out 0; have hfz125_1 := blk_frozen BK339.out 1; have hfz125_2 := blk_frozen BK339.out 2) | ((with_reducible refine gate_callee (f := 50) rfl ?_); refine goesL_ (some 33) rfl rfl Try.func50 (by kernel_rfl) rfl #[.agg #[.slice A0_0 l0_0.length c0_0, .int .i64 a0_1, .slice A0_2 l0_2.length c0_2]] rfl (by (try simp only [List.map_toArray, List.map_cons, List.map_nil]); first | done | rfl | (simp only [List.length_drop, List.length_take]; rfl)) ?_; (with_reducible refine (flow_Ahead.calls _ _ l0_0 a0_1 _ _ l0_2 t349 t352 _ ?side1 ?side2 ?side3 ?side4 A13.out).mono ?_); (case side1 => repeat (first | exact (Kd.C_below HR0_0.out HB.out) | (with_reducible refine Kd.C_alloc ?_ _) | (with_reducible refine Kd.C_drewN ?_ _) | (with_reducible refine Kd.C_drew ?_))); (case side2 => exact HC0_0.out); (case side3 => repeat (first | exact (Kd.C_below HR0_2.out HB.out) | (with_reducible refine Kd.C_alloc ?_ _) | (with_reducible refine Kd.C_drewN ?_ _) | (with_reducible refine Kd.C_drew ?_))); (case side4 => exact HC0_2.out); rintro e w126 ⟨v350, rfl, ho0, hb⟩; refine ⟨_, rfl, ?_⟩; have n0_ := Aside0.mk (Kd.R_below (by (with_reducible repeat (first | apply Kd.R_alloc | apply Kd.R_drewN | apply Kd.R_drew)); exact HO343.out) hb); have n1_ := Aside0.mk (Kd.R_below (by (with_reducible repeat (first | apply Kd.R_alloc | apply Kd.R_drewN | apply Kd.R_drew)); exact HO347.out) hb); have n2_ := Aside0.mk (Kd.S_lower (Kd.S_new' ho0 (Kd.R_lt (by (with_reducible repeat (first | apply Kd.R_alloc | apply Kd.R_drewN | apply Kd.R_drew)); exact HO343.out))) (below_size (by repeat (first | (with_reducible first | exact HB.out | apply below_alloc | apply pw_below_drewN | apply below_drew1 | refine below_set ?_ GE339.out) | exact HB.out)))); have n3_ := Aside0.mk (blk_below (g := gb339) (o := .cells #[.slice A0_0 l0_0.length c0_0, .int .i64 a0_1, .slice A0_2 l0_2.length c0_2] 25 (0, 0)) (by (with_reducible repeat (first | refine blk_drewN ?_ _ | refine blk_drew ?_ | refine blk_alloc ?_ _)); exact BK339.out) hb); have n4_ := Aside0.mk (below_step (by repeat (first | (with_reducible first | exact HB.out | apply below_alloc | apply pw_below_drewN | apply below_drew1 | refine below_set ?_ GE339.out) | exact HB.out)) hb); clear HO343; clear HO347; clear BK339; clear HB; have HO343 := n0_; have HO347 := n1_; have HO351 := n2_; have BK339 := n3_; have HB := n4_; clear n0_ n1_ n2_ n3_ n4_; (try clear hb); (try clear hb2); (try clear hk); (try clear hi); (try clear ho0); have hcz127_0 : w126.cell? ⟨gb339, 0, none⟩ = some (.slice A0_0 l0_0.length c0_0) := (blk_cell BK339.out 0).trans rfl; have hcz127_1 : w126.cell? ⟨gb339, 1, none⟩ = some (.int .i64 a0_1) := (blk_cell BK339.out 1).trans rfl; have hcz127_2 : w126.cell? ⟨gb339, 2, none⟩ = some (.slice A0_2 l0_2.length c0_2) := (blk_cell BK339.out 2).trans rfl; have hfz127_0 := blk_frozen BK339.out 0; have hfz127_1 := blk_frozen BK339.out 1; have hfz127_2 := blk_frozen BK339.out 2) | ((with_reducible refine gate_callee (f := 51) rfl ?_); refine goesL_ (some 38) rfl rfl Try.func51 (by kernel_rfl) rfl #[.agg #[.slice A0_0 l0_0.length c0_0, .int .i64 a0_1, .slice A0_2 l0_2.length c0_2]] rfl (by (try simp only [List.map_toArray, List.map_cons, List.map_nil]); first | done | rfl | (simp only [List.length_drop, List.length_take]; rfl)) ?_; (with_reducible refine (flow_Dom.calls _ _ l0_0 a0_1 _ _ l0_2 t353 t356 _ ?side1 ?side2 ?side3 ?side4 A14.out).mono ?_); (case side1 => repeat (first | exact (Kd.C_below HR0_0.out HB.out) | (with_reducible refine Kd.C_alloc ?_ _) | (with_reducible refine Kd.C_drewN ?_ _) | (with_reducible refine Kd.C_drew ?_))); (case side2 => exact HC0_0.out); (case side3 => repeat (first | exact (Kd.C_below HR0_2.out HB.out) | (with_reducible refine Kd.C_alloc ?_ _) | (with_reducible refine Kd.C_drewN ?_ _) | (with_reducible refine Kd.C_drew ?_))); (case side4 => exact HC0_2.out); rintro e w128 ⟨v354, rfl, ho0, hb⟩; refine ⟨_, rfl, ?_⟩; have n0_ := Aside0.mk (Kd.R_elder' (by (with_reducible repeat (first | apply Kd.R_alloc | apply Kd.R_drewN | apply Kd.R_drew)); exact HO343.out) (Kd.R_base ho0) hb); have n1_ := Aside0.mk (Kd.R_below (by (with_reducible repeat (first | apply Kd.R_alloc | apply Kd.R_drewN | apply Kd.R_drew)); exact HO347.out) hb); have n2_ := Aside0.mk (Kd.S_elder' (by (with_reducible repeat (first | apply Kd.S_alloc | apply Kd.S_drewN | apply Kd.S_drew)); exact HO351.out) (Kd.R_base ho0) hb); have n3_ := Aside0.mk (Kd.R_lower (Kd.R_new' ho0 (Kd.R_lt (by (with_reducible repeat (first | apply Kd.R_alloc | apply Kd.R_drewN | apply Kd.R_drew)); exact HO343.out))) (below_size (by repeat (first | (with_reducible first | exact HB.out | apply below_alloc | apply pw_below_drewN | apply below_drew1 | refine below_set ?_ GE339.out) | exact HB.out)))); have n4_ := Aside0.mk (blk_below (g := gb339) (o := .cells #[.slice A0_0 l0_0.length c0_0, .int .i64 a0_1, .slice A0_2 l0_2.length c0_2] 25 (0, 0)) (by (with_reducible repeat (first | refine blk_drewN ?_ _ | refine blk_drew ?_ | refine blk_alloc ?_ _)); exact BK339.out) hb); have n5_ := Aside0.mk (below_step (by repeat (first | (with_reducible first | exact HB.out | apply below_alloc | apply pw_below_drewN | apply below_drew1 | refine below_set ?_ GE339.out) | exact HB.out)) hb); clear HO343; clear HO347; clear HO351; clear BK339; clear HB; have HO343 := n0_; have HO347 := n1_; have HO351 := n2_; have HO355 := n3_; have BK339 := n4_; have HB := n5_; clear n0_ n1_ n2_ n3_ n4_ n5_; (try clear hb); (try clear hb2); (try clear hk); (try clear hi); (try clear ho0); have hcz129_0 : w128.cell? ⟨gb339, 0, none⟩ = some (.slice A0_0 l0_0.length c0_0) := (blk_cell BK339.out 0).trans rfl; have hcz129_1 : w128.cell? ⟨gb339, 1, none⟩ = some (.int .i64 a0_1) := (blk_cell BK339.out 1).trans rfl; have hcz129_2 : w128.cell? ⟨gb339, 2, none⟩ = some (.slice A0_2 l0_2.length c0_2) := (blk_cell BK339.out 2).trans rfl; have hfz129_0 := blk_frozen BK339.out 0; have hfz129_1 := blk_frozen BK339.out 1; have hfz129_2 := blk_frozen BK339.out 2) | ((with_reducible refine gate_callee (f := 53) rfl ?_); refine goesL_ (some 43) rfl rfl Try.func53 (by kernel_rfl) rfl #[.agg #[.slice A0_0 l0_0.length c0_0, .int .i64 a0_1, .slice A0_2 l0_2.length c0_2]] rfl (by (try simp only [List.map_toArray, List.map_cons, List.map_nil]); first | done | rfl | (simp only [List.length_drop, List.length_take]; rfl)) ?_; (with_reducible refine (flow_Inside.calls _ _ l0_0 a0_1 _ _ l0_2 t357 t360 _ ?side1 ?side2 ?side3 ?side4 A15.out).mono ?_); (case side1 => repeat (first | exact (Kd.C_below HR0_0.out HB.out) | (with_reducible refine Kd.C_alloc ?_ _) | (with_reducible refine Kd.C_drewN ?_ _) | (with_reducible refine Kd.C_drew ?_))); (case side2 => exact HC0_0.out); (case side3 => repeat (first | exact (Kd.C_below HR0_2.out HB.out) | (with_reducible refine Kd.C_alloc ?_ _) | (with_reducible refine Kd.C_drewN ?_ _) | (with_reducible refine Kd.C_drew ?_))); (case side4 => exact HC0_2.out); rintro e w130 ⟨v358, rfl, ho0, hb⟩; refine ⟨_, rfl, ?_⟩; have n0_ := Aside0.mk (Kd.R_below (by (with_reducible repeat (first | apply Kd.R_alloc | apply Kd.R_drewN | apply Kd.R_drew)); exact HO343.out) hb); have n1_ := Aside0.mk (Kd.R_elder' (by (with_reducible repeat (first | apply Kd.R_alloc | apply Kd.R_drewN | apply Kd.R_drew)); exact HO347.out) (Kd.R_base ho0) hb); have n2_ := Aside0.mk (Kd.S_below (by (with_reducible repeat (first | apply Kd.S_alloc | apply Kd.S_drewN | apply Kd.S_drew)); exact HO351.out) hb); have n3_ := Aside0.mk (Kd.R_below (by (with_reducible repeat (first | apply Kd.R_alloc | apply Kd.R_drewN | apply Kd.R_drew)); exact HO355.out) hb); have n4_ := Aside0.mk (Kd.R_lower (Kd.R_new' ho0 (Kd.R_lt (by (with_reducible repeat (first | apply Kd.R_alloc | apply Kd.R_drewN | apply Kd.R_drew)); exact HO347.out))) (below_size (by repeat (first | (with_reducible first | exact HB.out | apply below_alloc | apply pw_below_drewN | apply below_drew1 | refine below_set ?_ GE339.out) | exact HB.out)))); have n5_ := Aside0.mk (blk_below (g := gb339) (o := .cells #[.slice A0_0 l0_0.length c0_0, .int .i64 a0_1, .slice A0_2 l0_2.length c0_2] 25 (0, 0)) (by (with_reducible repeat (first | refine blk_drewN ?_ _ | refine blk_drew ?_ | refine blk_alloc ?_ _)); exact BK339.out) hb); have n6_ := Aside0.mk (below_step (by repeat (first | (with_reducible first | exact HB.out | apply below_alloc | apply pw_below_drewN | apply below_drew1 | refine below_set ?_ GE339.out) | exact HB.out)) hb); clear HO343; clear HO347; clear HO351; clear HO355; clear BK339; clear HB; have HO343 := n0_; have HO347 := n1_; have HO351 := n2_; have HO355 := n3_; have HO359 := n4_; have BK339 := n5_; have HB := n6_; clear n0_ n1_ n2_ n3_ n4_ n5_ n6_; (try clear hb); (try clear hb2); (try clear hk); (try clear hi); (try clear ho0)) | ((with_reducible refine gate_callee (f := 52) rfl ?_); refine goesL_ (some 48) rfl rfl Try.func52 (by kernel_rfl) rfl #[] rfl (by (try simp only [List.map_toArray, List.map_cons, List.map_nil]); first | done | rfl | (simp only [List.length_drop, List.length_take]; rfl)) ?_; (with_reducible refine (turnstilelaw12_alive.calls k  t361 _ A116.out).mono ?_); rintro e w131 ⟨rfl, hb⟩; refine ⟨_, rfl, ?_⟩; have n0_ := Aside0.mk (Kd.R_below (by (with_reducible repeat (first | apply Kd.R_alloc | apply Kd.R_drewN | apply Kd.R_drew)); exact HO343.out) hb); have n1_ := Aside0.mk (Kd.R_below (by (with_reducible repeat (first | apply Kd.R_alloc | apply Kd.R_drewN | apply Kd.R_drew)); exact HO347.out) hb); have n2_ := Aside0.mk (Kd.S_below (by (with_reducible repeat (first | apply Kd.S_alloc | apply Kd.S_drewN | apply Kd.S_drew)); exact HO351.out) hb); have n3_ := Aside0.mk (Kd.R_below (by (with_reducible repeat (first | apply Kd.R_alloc | apply Kd.R_drewN | apply Kd.R_drew)); exact HO355.out) hb); have n4_ := Aside0.mk (Kd.R_below (by (with_reducible repeat (first | apply Kd.R_alloc | apply Kd.R_drewN | apply Kd.R_drew)); exact HO359.out) hb); have n5_ := Aside0.mk (blk_below (g := gb339) (o := .cells #[.slice A0_0 l0_0.length c0_0, .int .i64 a0_1, .slice A0_2 l0_2.length c0_2] 25 (0, 0)) (by (with_reducible repeat (first | refine blk_drewN ?_ _ | refine blk_drew ?_ | refine blk_alloc ?_ _)); exact BK339.out) hb); have n6_ := Aside0.mk (below_step (by repeat (first | (with_reducible first | exact HB.out | apply below_alloc | apply pw_below_drewN | apply below_drew1 | refine below_set ?_ GE339.out) | exact HB.out)) hb); clear HO343; clear HO347; clear HO351; clear HO355; clear HO359; clear BK339; clear HB; have HO343 := n0_; have HO347 := n1_; have HO351 := n2_; have HO355 := n3_; have HO359 := n4_; have BK339 := n5_; have HB := n6_; clear n0_ n1_ n2_ n3_ n4_ n5_ n6_; (try clear hb); (try clear hb2); (try clear hk); (try clear hi)))
   go_ret
   exact ⟨by first | rfl | (simp [errW_none, errW_some] <;> rfl) | (simp [*, errW_none, errW_some] <;> rfl), by repeat (first | (with_reducible first | exact HB.out | apply below_alloc | apply pw_below_drewN | apply below_drew1 | refine below_set ?_ GE339.out) | exact HB.out)⟩
end Go.Proofs.Ytjmeignhhheckaa.Q
namespace Go.Proofs.Ytjmeignhhheckaa.H
open Go.RowKit Go.Maps Go.Proofs.YtjmeignhhheckaaW.PrintWords Go.Proofs.YtjmeignhhheckaaW.PrintLast Go.Proofs.Ytjmeignhhheckaa.Q
set_option maxRecDepth 100000
section
variable {H : Type} {enc : TypeId × Value → H} {w : World} {base : Nat} {spare : Nat → Bool} {held : Bool}
/-- a slice of whatever elements, opened at once -/
theorem open_C {α : Type} [Inhabited α] (d : Kd α) {t e : TypeId} (R : DataW H → α → Prop) (ht : Try.prog.underlying t = some (.slice e)) (hsz : Try.prog.cellsOf e = d.sz)
    (hel : ∀ (n : Nat) (cs' : List Value) (D : DataW H) (Pl : List MemPlace), cs'.length = d.sz → DataW.trod enc Try.prog w base spare held n e cs' = some (D, Pl) → ∃ x : α, d.K w x cs' ∧ R D x)
    {fuel : Nat} {cs : List Value} {x : DataW H × List MemPlace} (h : DataW.trod enc Try.prog w base spare held fuel t cs = some x) :
    ∃ (A : Option Addr) (c : Nat) (xs : List α), cs = [.slice A xs.length c] ∧ xs.length ≤ c ∧ d.C w A xs.length xs ∧ (xs = [] ∨ ∃ elems spr, x.1 = .slice elems spr ∧ elems.length = xs.length ∧ ∀ p ∈ xs, ∃ D ∈ elems, R D p) := by
  rcases Go.Deep.open_slice ht h with ⟨rfl, rfl⟩ | ⟨a, len, cap, m, n, D, Pl, rfl, hb, hl, hm, hmm, rfl, hi⟩
  · exact ⟨none, 0, [], rfl, Nat.le_refl _, ⟨rfl, Nat.zero_le _, fun h => absurd h (Nat.lt_irrefl _)⟩, .inl rfl⟩
  · have hle : len ≤ m := by rw [hmm]; split <;> omega
    have hx : ∀ i, i < len → ∃ x : α, (∃ cs', w.cells? base (a.add (i * d.sz)) d.sz = some cs' ∧ d.K w x cs') ∧ R (D i) x := by
      intro i hil
      obtain ⟨cs', h1, h2⟩ := hi i (by omega)
      rw [hsz] at h1
      have hc := World.cells?_some h1
      obtain ⟨x, h3, h4⟩ := hel n cs' (D i) (Pl i) hc.2.1 h2
      exact ⟨x, ⟨cs', h1, h3⟩, h4⟩
    obtain ⟨f, hf⟩ := Go.Deep.choose_lt hx
    have hlen : ((List.range len).map f).length = len := by simp
    refine ⟨some a, cap, (List.range len).map f, by rw [hlen], by rw [hlen]; exact hl, ⟨rfl, by rw [hlen]; have := hm; unfold maxLen at this; omega, fun _ => ⟨a, rfl, fun j p hj => ?_⟩⟩, .inr ⟨_, _, rfl, by simp, fun p hp => ?_⟩⟩
    · have hjl : j < len := by
        have := (List.getElem?_eq_some_iff.1 hj).1
        rwa [hlen] at this
      have hpe : p = f j := by
        rw [List.getElem?_map, List.getElem?_range hjl] at hj
        exact (Option.some.inj hj).symm
      subst hpe
      obtain ⟨⟨cs', h1, h2⟩, _⟩ := hf j hjl
      have hc := World.cells?_some h1
      refine ⟨cs', hc.2.1, h2, fun i u hu => ?_⟩
      have hiu := (List.getElem?_eq_some_iff.1 hu).1
      rw [← Go.Deep.add_add, hc.2.2 i (by rw [← hc.2.1]; exact hiu)]
      exact hu
    · rw [List.mem_map] at hp
      obtain ⟨j, hj, rfl⟩ := hp
      have hjl := List.mem_range.1 hj
      exact ⟨D j, List.mem_map.2 ⟨j, hj, rfl⟩, (hf j hjl).2⟩
instance : Inhabited S46 := ⟨z46⟩
instance : Inhabited S36 := ⟨z36⟩
theorem len6 {cs : List Value} (h : cs.length = 6) : ∃ a b c d e f, cs = [a, b, c, d, e, f] := by
  match cs, h with
  | [a, b, c, d, e, f], _ => exact ⟨a, b, c, d, e, f, rfl⟩
theorem len5 {cs : List Value} (h : cs.length = 5) : ∃ a b c d e, cs = [a, b, c, d, e] := by
  match cs, h with
  | [a, b, c, d, e], _ => exact ⟨a, b, c, d, e, rfl⟩
theorem cells46 : Try.prog.cellsOf 46 = 6 := by kernel_rfl
theorem cells36 : Try.prog.cellsOf 36 = 5 := by kernel_rfl
theorem cells43 : Try.prog.cellsOf 43 = 1 := by kernel_rfl
theorem cells44 : Try.prog.cellsOf 44 = 1 := by kernel_rfl
theorem cells34 : Try.prog.cellsOf 34 = 1 := by kernel_rfl
theorem cells33 : Try.prog.cellsOf 33 = 1 := by kernel_rfl
theorem cells3 : Try.prog.cellsOf 3 = 1 := by kernel_rfl
theorem cells2 : Try.prog.cellsOf 2 = 1 := by kernel_rfl
theorem cells4 : Try.prog.cellsOf 4 = 1 := by kernel_rfl
theorem ins_K (n : Nat) (cs : List Value) (D : DataW H) (Pl : List MemPlace) (hl : cs.length = 6) (h : DataW.trod enc Try.prog w base spare held n 46 cs = some (D, Pl)) : ∃ x : S46, k46.K w x cs ∧ True := by
  obtain ⟨c0, c1, c2, c3, c4, c5, rfl⟩ := len6 hl
  obtain ⟨xs, m, _, _, _, hxl, hf⟩ := DataW.trod_struct Try.underlying46 h
  have g0 : DataW.trod enc Try.prog w base spare held m 43 (([c0, c1, c2, c3, c4, c5].drop 0).take (Try.prog.cellsOf 43)) = xs[0]? := hf 0 _ rfl
  have g1 : DataW.trod enc Try.prog w base spare held m 44 (([c0, c1, c2, c3, c4, c5].drop 1).take (Try.prog.cellsOf 44)) = xs[1]? := hf 1 _ rfl
  have g2 : DataW.trod enc Try.prog w base spare held m 3 (([c0, c1, c2, c3, c4, c5].drop 2).take (Try.prog.cellsOf 3)) = xs[2]? := hf 2 _ rfl
  have g3 : DataW.trod enc Try.prog w base spare held m 3 (([c0, c1, c2, c3, c4, c5].drop 3).take (Try.prog.cellsOf 3)) = xs[3]? := hf 3 _ rfl
  have g4 : DataW.trod enc Try.prog w base spare held m 3 (([c0, c1, c2, c3, c4, c5].drop 4).take (Try.prog.cellsOf 3)) = xs[4]? := hf 4 _ rfl
  have g5 : DataW.trod enc Try.prog w base spare held m 2 (([c0, c1, c2, c3, c4, c5].drop 5).take (Try.prog.cellsOf 2)) = xs[5]? := hf 5 _ rfl
  rw [cells43] at g0
  rw [cells44] at g1
  rw [cells3] at g2 g3 g4
  rw [cells2] at g5
  rw [List.getElem?_eq_getElem (by rw [hxl]; decide)] at g0 g1 g2 g3 g4 g5
  obtain ⟨a0, h0, _, _⟩ := DataW.trod_int Try.underlying43 g0
  obtain ⟨a1, h1, _, _⟩ := DataW.trod_int Try.underlying44 g1
  obtain ⟨a2, h2, _, _⟩ := DataW.trod_int Try.underlying3 g2
  obtain ⟨a3, h3, _, _⟩ := DataW.trod_int Try.underlying3 g3
  obtain ⟨a4, h4, _, _⟩ := DataW.trod_int Try.underlying3 g4
  obtain ⟨a5, h5, _, _⟩ := DataW.trod_int Try.underlying2 g5
  simp only [List.drop_zero, List.drop_succ_cons, List.take_succ_cons, List.take_zero, List.cons.injEq, and_true] at h0 h1 h2 h3 h4 h5
  subst h0 h1 h2 h3 h4 h5
  exact ⟨⟨a0, a1, a2, a3, a4, a5⟩, k46_mk w _, trivial⟩
/-- how much a list of instructions weighs -/
def lightI (D : DataW H) (x : S36) : Prop := (∀ n ∈ D.weights Try.prog 36, n ≤ reachBytes) → x.f0.length ≤ 140737488351232
theorem blk_K (n : Nat) (cs : List Value) (D : DataW H) (Pl : List MemPlace) (hl : cs.length = 5) (h : DataW.trod enc Try.prog w base spare held n 36 cs = some (D, Pl)) : ∃ x : S36, k36.K w x cs ∧ lightI D x := by
  obtain ⟨c0, c1, c2, c3, c4, rfl⟩ := len5 hl
  obtain ⟨xs, m, _, hD, _, hxl, hf⟩ := DataW.trod_struct Try.underlying36 h
  have g0 : DataW.trod enc Try.prog w base spare held m 33 (([c0, c1, c2, c3, c4].drop 0).take (Try.prog.cellsOf 33)) = xs[0]? := hf 0 _ rfl
  have g1 : DataW.trod enc Try.prog w base spare held m 34 (([c0, c1, c2, c3, c4].drop 1).take (Try.prog.cellsOf 34)) = xs[1]? := hf 1 _ rfl
  have g2 : DataW.trod enc Try.prog w base spare held m 3 (([c0, c1, c2, c3, c4].drop 2).take (Try.prog.cellsOf 3)) = xs[2]? := hf 2 _ rfl
  have g3 : DataW.trod enc Try.prog w base spare held m 3 (([c0, c1, c2, c3, c4].drop 3).take (Try.prog.cellsOf 3)) = xs[3]? := hf 3 _ rfl
  have g4 : DataW.trod enc Try.prog w base spare held m 3 (([c0, c1, c2, c3, c4].drop 4).take (Try.prog.cellsOf 3)) = xs[4]? := hf 4 _ rfl
  rw [cells33] at g0
  rw [cells34] at g1
  rw [cells3] at g2 g3 g4
  have hx5 : ∃ x0 x1 x2 x3 x4, xs = [x0, x1, x2, x3, x4] := by
    match xs, hxl with
    | [a, b, c, d, e], _ => exact ⟨a, b, c, d, e, rfl⟩
  obtain ⟨x0, x1, x2, x3, x4, rfl⟩ := hx5
  obtain ⟨A, c, is, h0, hc0, hC, hw⟩ := open_C k46 (fun _ _ => True) Try.underlying33 (cells46.trans rfl) (fun n cs' D Pl hl h => ins_K n cs' D Pl hl h) g0
  obtain ⟨a1, h1, _, _⟩ := DataW.trod_int Try.underlying34 g1
  obtain ⟨a2, h2, _, _⟩ := DataW.trod_int Try.underlying3 g2
  obtain ⟨a3, h3, _, _⟩ := DataW.trod_int Try.underlying3 g3
  obtain ⟨a4, h4, _, _⟩ := DataW.trod_int Try.underlying3 g4
  simp only [List.drop_zero, List.drop_succ_cons, List.take_succ_cons, List.take_zero, List.cons.injEq, and_true] at h0 h1 h2 h3 h4
  subst h0 h1 h2 h3 h4
  refine ⟨⟨is, a1, a2, a3, a4⟩, k36_mk w ⟨is, a1, a2, a3, a4⟩ hc0 hC, fun hwt => ?_⟩
  rcases hw with rfl | ⟨elems, spr, he, hle, _⟩
  · exact Nat.zero_le _
  · have hD1 := congrArg Prod.fst hD
    dsimp only at hD1
    subst hD1
    have hb : Try.prog.bytesOf 46 = 40 := by kernel_rfl
    have := hwt ((elems.length + spr.length) * 40) (by
      simp only [DataW.weights, Try.underlying36, List.map_cons, List.map_nil]
      simp [DataW.weightsEach, DataW.weights, he, Try.underlying33, hb])
    have hr := reachBytes_lt
    show is.length ≤ _
    omega
theorem weights_in {P : Program} {e : TypeId} {n : Nat} {D : DataW H} : ∀ {l : List (DataW H)}, D ∈ l → n ∈ D.weights P e → n ∈ DataW.weightsAll P e l := by
  intro l
  induction l with
  | nil => intro h; cases h
  | cons a l ih =>
    intro h hn
    rw [DataW.weightsAll, List.mem_append]
    rcases List.mem_cons.1 h with rfl | h
    · exact .inl hn
    · exact .inr (ih h hn)
theorem bool_K (n : Nat) (cs : List Value) (D : DataW H) (Pl : List MemPlace) (hl : cs.length = 1) (h : DataW.trod enc Try.prog w base spare held n 4 cs = some (D, Pl)) : ∃ x : Bool, Kd.bool.K w x cs ∧ True := by
  obtain ⟨b, rfl, _⟩ := DataW.trod_bool Try.underlying4 h
  exact ⟨b, rfl, trivial⟩
/-- a graph by value -/
theorem graph_open {r : Reach} {b0 : Nat} {v : Value} {d : DataW H} {p : List MemPlace} (hv : Value.okWide Try.prog w r b0 25 v) (h : DataW.Trod enc Try.prog w base spare held 25 v d p) (hw : ∀ n ∈ d.weights Try.prog 25, n ≤ reachBytes) :
    ∃ (A0 : Option Addr) (c0 : Nat) (l0 : List Bool) (a1 : Int) (A2 : Option Addr) (c2 : Nat) (l2 : List S36), v = .agg #[.slice A0 l0.length c0, .int .i64 a1, .slice A2 l2.length c2] ∧ Kd.C Kd.bool w A0 l0.length l0 ∧ l0.length ≤ c0 ∧ Kd.C k36 w A2 l2.length l2 ∧ l2.length ≤ c2 ∧ smallG l2 := by
  obtain ⟨v0, v1, v2, y0, y1, y2, n, rfl, rfl, _, h0, h1, h2⟩ := Go.Joins.open_agg3 Try.underlying25 (by kernel_rfl) (by kernel_rfl) hv h
  obtain ⟨A0, c0, l0, e0, hc0, hC0, _⟩ := open_C Kd.bool (fun _ _ => True) Try.underlying22 (cells4.trans rfl) (fun n cs' D Pl hl h => bool_K n cs' D Pl hl h) h0
  obtain ⟨a1, e1, _, _⟩ := DataW.trod_int Try.underlying3 h1
  obtain ⟨A2, c2, l2, e2, hc2, hC2, hl2⟩ := open_C k36 lightI Try.underlying23 (cells36.trans rfl) (fun n cs' D Pl hl h => blk_K n cs' D Pl hl h) h2
  simp only [List.cons.injEq, and_true] at e0 e1 e2
  subst e0 e1 e2
  refine ⟨A0, c0, l0, a1, A2, c2, l2, rfl, hC0, hc0, hC2, hc2, ?_⟩
  rcases hl2 with rfl | ⟨elems, spr, he, hle, hx⟩
  · exact ⟨Nat.zero_le _, fun x hx => by cases hx⟩
  · have hb : Try.prog.bytesOf 36 = 56 := by kernel_rfl
    have hin : ∀ n ∈ (y2.1).weights Try.prog 23, n ≤ reachBytes := fun n hn => hw n (by
      simp only [DataW.weights, Try.underlying25, List.map_cons, List.map_nil]
      simp [DataW.weightsEach, hn])
    rw [he] at hin
    simp only [DataW.weights, Try.underlying23] at hin
    have hr := reachBytes_lt
    have hrb : reachBytes = 140737488351232 := rfl
    constructor
    · have := hin ((elems.length + spr.length) * 56) (by rw [hb]; exact List.mem_cons_self)
      omega
    · intro x hxm
      obtain ⟨D, hD, hl⟩ := hx x hxm
      exact hl (fun n hn => hin n (List.mem_cons_of_mem _ (List.mem_append_left _ (weights_in hD hn))))
end
end Go.Proofs.Ytjmeignhhheckaa.H

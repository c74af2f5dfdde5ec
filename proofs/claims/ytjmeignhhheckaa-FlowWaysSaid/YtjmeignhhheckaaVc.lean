/- FlowWays: for every graph and list of numbers the law returns true and leaves its arguments as they were. No condition. -/
import Derived.Test.YtjmeignhhheckaaVb
import Derived.Test.YtjmeignhhheckaaRows
import Derived.WalkKit
import Derived.ProofKit
import Derived.OpenShut
import Derived.ShutString
import Derived.ChangeOld
import Derived.Below
import Derived.SizedLaws
set_option linter.unusedVariables false
set_option linter.unusedSimpArgs false
/- FlowWays: for every graph and list of numbers the law returns true and leaves its arguments as they were. No condition. -/
namespace Go.Proofs.Ytjmeignhhheckaa.flowWays
open Go.ChangeShapes Go.WideShapes Go.ChangeAt Go.RowKit
set_option linter.unusedVariables false
theorem own : ownKnob Try.prog.godebug = none := by kernel_rfl
theorem laidOut : laidOutB Try.prog = true := by kernel_rfl
set_option maxRecDepth 100000 in
theorem ints_open {H : Type} {enc : TypeId × Value → H} {w : World} {base : Nat} {spare : Nat → Bool} {held : Bool} {r : Reach} {b0 : Nat} {v : Value} {d : DataW H} {p : List MemPlace} (hv : Value.okWide Try.prog w r b0 37 v) (h : DataW.Trod enc Try.prog w base spare held 37 v d p) :
    ∃ (A : Option Addr) (c : Nat) (l : List Int), v = .slice A l.length c ∧ l.length ≤ c ∧ Go.Proofs.YtjmeignhhheckaaW.PrintWords.Kd.C (Go.Proofs.YtjmeignhhheckaaW.PrintWords.Kd.int .i64) w A l.length l := by
  obtain ⟨a, len, cap, rfl⟩ := okWide_slice Try.underlying37 hv
  obtain ⟨n, hn⟩ := h
  obtain ⟨A, c, xs, e, hc, hC, _⟩ := Go.Proofs.Ytjmeignhhheckaa.H.open_C (Go.Proofs.YtjmeignhhheckaaW.PrintWords.Kd.int .i64) (fun _ _ => True) Try.underlying37 (Go.Proofs.Ytjmeignhhheckaa.H.cells3.trans rfl) (fun n cs' D Pl hl h => by
    obtain ⟨z, rfl, _, _⟩ := DataW.trod_int Try.underlying3 h
    exact ⟨z, rfl, trivial⟩) hn
  have e : [Value.slice a len cap] = [.slice A xs.length c] := e
  exact ⟨A, c, xs, (List.cons.inj e).1, hc, hC⟩
set_option maxRecDepth 100000 in
theorem lifted (os : Os) (started : os.Started) (H : Type) (enc : TypeId × Value → H) :
    ReturnsInHanded {} Try.checked os 12 .any (Rows.flowWaysSpec.pre6 enc Try.prog Try.f12 Rows.flowWaysRow.domain false) (Rows.flowWaysSpec.post enc Try.prog Try.f12 false true false false) := by
  refine returnsInHanded_of_change_sized (C := Try.checked) own started (by kernel_rfl) Try.func12
    (ChangeSpec.witness6 (enc := enc) (C := Try.checked) false ⟨#[], #[.agg #[.slice none 0 0, .int .i64 0, .slice none 0 0], .slice none 0 0], []⟩ 8 (by kernel_rfl) (by kernel_rfl) (by kernel_rfl) (by kernel_rfl)) ?_
  intro W base args ds gs before hval0 hW hcnd hsz0 _
  have hsz : (DataW.weightsEach Try.prog (Try.f12.params.toList ++ Rows.flowWaysSpec.plain.varTypes Try.prog) (ds ++ gs)).all (· ≤ reachBytes) = true := hsz0
  have hval : ∀ (j : Nat) t v, Try.f12.params[j]? = some t → args[j]? = some v → Value.okWide Try.prog W .any base t v := hval0
  have hW' := hW
  obtain ⟨p, q, hA0, hV, rfl, hfz, hnd⟩ := hW
  have hA : DataW.TrodAll enc Try.prog W 0 (fun _ => true) true Try.f12.params.toList args.toList ds p := hA0
  rw [Try.params12] at hA hval hsz
  obtain ⟨v0, vs0, d0, ds0, p0, q0, hargs, rfl, rfl, h0, r0⟩ := trodAll_cons hA
  obtain ⟨v1, vs1, d1, ds1, p1, q1, rfl, rfl, rfl, h1, r1⟩ := trodAll_cons r0
  obtain ⟨rfl, rfl, rfl⟩ := trodAll_nil r1
  obtain rfl : args = #[v0, v1] := by cases args; simp_all
  obtain ⟨rfl, rfl⟩ := trodVars_none hV
  have k0 := h0
  have k1 := h1
  have lt1 : ∀ x ∈ p1, x.block < W.heap.size := by obtain ⟨m, hm⟩ := k1; exact DataW.trod_lt m _ _ _ hm
  have lt0 : ∀ x ∈ p0, x.block < W.heap.size := by obtain ⟨m, hm⟩ := k0; exact DataW.trod_lt m _ _ _ hm
  obtain ⟨A0, c0, l0, a1, A2, c2, l2, rfl, hC0, hc0, hC2, hc2, hsm⟩ := Go.Proofs.Ytjmeignhhheckaa.H.graph_open (hval 0 25 v0 rfl rfl) h0 (fun n hn => by
    have := List.all_eq_true.1 hsz _ (DataW.weights_mem_each (j := 0) (t := 25) (d := d0) rfl rfl n hn)
    simpa using this)
  obtain ⟨A1, c1, l1, rfl, hc1, hC1⟩ := ints_open (hval 1 37 v1 rfl rfl) h1
  clear hA0 hval0 hsz0 hsz
  obtain ⟨k, hk⟩ := Go.Proofs.Ytjmeignhhheckaa.H.flowWays_pure l0 a1 l2 hsm l1 hC1.2.1
  refine (Q.turnstilelaw12_FlowWays.calls k A0 c0 l0 a1 A2 c2 l2 A1 c1 l1 true W hC0 hc0 hC2 hc2 hC1 hc1 hk).mono fun e W' ⟨he, bel⟩ => ?_
  subst he
  exact ⟨_, rfl, _, _, _, [], _, [], hW', trodAll_mk1 (shut_bool Try.underlying4 _), (trodAll_cons_mk (Below.trod laidOut (by kernel_rfl) (of_decide_eq_true (by kernel_rfl)) k0 bel lt0) (trodAll_cons_mk (Below.trod laidOut (by kernel_rfl) (of_decide_eq_true (by kernel_rfl)) k1 bel lt1) trodAll_mk0)), rfl, bel.frame _, fun h => by cases h⟩
theorem over : Rows.flowWaysRow.holds Try.pinned (OpenSpec.ofChange Rows.flowWaysSpec) :=
  OpenClaim.holds_of_wide 12 Try.f12 rfl rfl rfl rfl rfl rfl rfl ⟨rfl, rfl, rfl, rfl, rfl⟩ rfl rfl rfl rfl rfl (by kernel_rfl) Try.func12 (by kernel_rfl)
    (of_decide_eq_true (by kernel_rfl)) (by unfold Func.isWrapper; first | (rw [if_pos (by decide +kernel)]; kernel_rfl) | (rw [if_neg (by decide +kernel)]; exact ⟨rfl, rfl⟩))
    (fun os started H enc _ => lifted os started H enc)
theorem proved : Rows.FlowWaysSaid := over
#print axioms proved
end Go.Proofs.Ytjmeignhhheckaa.flowWays
namespace Go.Proofs.Ytjmeignhhheckaa
theorem flowWays_holds : Rows.FlowWaysSaid := flowWays.proved
end Go.Proofs.Ytjmeignhhheckaa

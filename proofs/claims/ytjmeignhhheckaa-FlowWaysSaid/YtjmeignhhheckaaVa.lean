/- Part 1 behind the shared texts: contracts of the functions that are reached, and the plain law. -/
import Derived.Test.YtjmeignhhheckaaXd
import Derived.Below
import Derived.Deep.Draws
import Derived.Deep.AppendLies
import Derived.Maps.AppendAt
import Derived.OwnWalk
import Derived.Laws.BytesArg
import Derived.Laws.MakeOwn
import Derived.Laws.OwnMore
import Derived.Deep.OwnRows
import Derived.Tactics
import Derived.Lib.ConvBytes
import Derived.Laws.Slices
import Derived.WalkKit
import Derived.KernelRfl
import Derived.RowKit3
import Derived.Deep.LoopGhost
import Derived.Deep.QuietTactic
import Derived.BigQuiet
import Derived.WideLaws
import Derived.Deep.DeepCutAuto
import Derived.Deep.CutBlock
import Derived.Deep.RegionHeld3
import Derived.Laws.Rows
import Derived.Lib.AppendStr
import Derived.ArgAppend
import Derived.Laws.IdiomCopy
import Derived.RowKit
set_option linter.unusedVariables false
set_option linter.unusedSimpArgs false
set_option linter.unusedVariables false
set_option linter.unusedSimpArgs false
namespace Go.Proofs.YtjmeignhhheckaaW.PrintWords
open Go.RowKit
section
variable {P : Program} {ops : Array Oper} {rest : List Oper} {o : Oper} {a : Act} {Q : Exit → Act → World → Prop}
end
section
variable {P : Program}
end
section
variable {P : Program} {ops : Array Oper} {rest : List Oper} {o : Oper} {a : Act} {Q : Exit → Act → World → Prop}
end
section
variable {P : Program} {ops : Array Oper} {rest : List Oper} {o : Oper} {a : Act} {Q : Exit → Act → World → Prop}
end
section
variable {P : Program} {ops : Array Oper} {o : Oper} {a : Act} {Q : Exit → Act → World → Prop} {K : Act → World → Prop}
end
section
variable {α : Type} {enc : α → Value} {d : α}
end
section
variable {α : Type} {P : Program} {ops : Array Oper} {rest : List Oper} {o : Oper} {a : Act} {Q : Exit → Act → World → Prop}
end
section
variable {P : Program}
end
section
variable {α : Type} {R R' : α → List Value → Prop} {e : TypeId} {size : Nat} {w w1 : World} {base : Nat} {v : Value} {ps : List α}
end
section
variable {P : Program} {ops : Array Oper} {rest : List Oper} {o : Oper} {a : Act} {Q : Exit → Act → World → Prop} {α : Type} {R : α → List Value → Prop}
end
section
variable {P : Program} {ops : Array Oper} {o : Oper} {a : Act} {Q : Exit → Act → World → Prop} {K : Act → World → Prop} {α : Type} {R : α → List Value → Prop}
end
section
variable {α : Type} {P : Program}
end
section
variable {P : Program} {ops : Array Oper} {rest : List Oper} {o : Oper} {a : Act} {Q : Exit → Act → World → Prop}
end
namespace Kd
section
variable {α : Type} {d : Kd α} {e : Nat} {w w1 : World} {base : Nat} {ok ok' : Nat → Prop} {v : Value} {xs : List α}
end
section
variable {P : Program} {ops : Array Oper} {rest : List Oper} {o : Oper} {a : Act} {Q : Exit → Act → World → Prop} {α : Type}
end
section
variable {P : Program} {ops : Array Oper} {o : Oper} {a : Act} {Q : Exit → Act → World → Prop} {Kc : Act → World → Prop} {α : Type}
end
end Kd
namespace Kd
section
variable {α : Type} {F : Kd α → Kd α} {sz : Nat} {E : List Nat} {hs : ∀ n, (upto F sz E n).sz = sz} {hE : ∀ n q, q ∈ (upto F sz E n).E → q ∈ E}
end
end Kd
namespace Kd
/-- Behind an append to v (it left v1): what is held apart from v is held apart from v1. -/
theorem R_after {α : Type} {d : Kd α} {e base : Nat} {ok : Nat → Prop} {W w1 : World} {u v v1 : Value} {xs : List α} (h : d.R e W base (fun k => ok k ∧ some k ≠ v.ownBlock) u xs) (hg : W.grownBy w1 v.ownBlock) (hat : v1.ownBlock = v.ownBlock ∨ ∃ b, v1.ownBlock = some b ∧ W.heap.size ≤ b) : d.R e w1 base (fun k => ok k ∧ some k ≠ v1.ownBlock) u xs := by
  refine R_mono (R_move (R_bound h) (fun k hk => hg.block k hk.2.2.1 hk.1.2)) (fun k hk => ⟨hk.1.1, ?_⟩)
  rcases hat with hat | ⟨b, hb, hle⟩
  · rw [hat]; exact hk.1.2
  · rw [hb]
    intro he
    injection he with he
    have := hk.2.2.1
    omega
end Kd
namespace Kd
section
variable {α β : Type} {d : Kd α} {d' : Kd β} {e e' : Nat} {w w1 W : World} {base b b' : Nat} {ok ok' okv oku : Nat → Prop} {v u : Value} {xs : List α} {ys : List β}
end
section
variable {w W : World} {A : Option Addr} {n : Nat}
variable {α : Type} {enc : α → Value} {h1 : ∀ x, (enc x).oneCell' = true} {e base g cap : Nat} {ok : Nat → Prop} {xs : List α}
end
section
variable {P : Program} {ops : Array Oper} {rest : List Oper} {o : Oper} {a : Act} {Q : Exit → Act → World → Prop}
variable {α : Type}
end
end Kd
section
variable {P : Program}
end
section
variable {w w1 : World} {base n size : Nat} {e : TypeId} {v : Value} {xs : List Value}
end
section
variable {P : Program}
end
namespace Kd
section
variable {α : Type} {d : Kd α} {e : Nat} {w w1 W : World} {base : Nat} {ok ok' : Nat → Prop} {v : Value} {xs : List α}
end
section
variable {P : Program} {ops : Array Oper} {rest : List Oper} {o : Oper} {a : Act} {Q' : Exit → Act → World → Prop} {Kc : Act → World → Prop} {α : Type}
end
end Kd
namespace Kd
section
variable {α : Type} {d : Kd α} {e e' : Nat} {w w1 W : World} {base : Nat} {ok : Nat → Prop} {u v : Value} {xs : List α}
end
end Kd
namespace Kd
section
variable {α : Type} {d : Kd α} {e base g n cap : Nat} {ok okp : Nat → Prop} {W : World} {xs : List α}
end
end Kd
namespace Kd
section
variable {α : Type} {F : Kd α → Kd α} {sz : Nat} {E : List Nat} {hs : ∀ n, (upto F sz E n).sz = sz} {hE : ∀ n q, q ∈ (upto F sz E n).E → q ∈ E}
end
end Kd
namespace Kd
section
variable {P : Program} {ops : Array Oper} {rest : List Oper} {o : Oper} {a : Act} {Q : Exit → Act → World → Prop} {α : Type}
end
end Kd
namespace Kd
section
variable {P : Program} {ops : Array Oper} {rest : List Oper} {o : Oper} {a : Act} {Q : Exit → Act → World → Prop} {α : Type}
end
end Kd
namespace Kd
section
variable {α : Type} {k : Kd α} {w : World} {A : Option Addr} {xs : List α} {m c : Nat}
end
end Kd
section
variable {P : Program}
end
namespace Kd
section
variable {α β : Type} {d : Kd α} {d' : Kd β} {e e' base base' n : Nat} {ok ok' : Nat → Prop} {w W w1 W1 : World} {v u : Value} {xs : List α} {ys : List β} {A : Option Addr} {c : Nat}
end
section
variable {α : Type} {enc : α → Value} {h1 : ∀ x, (enc x).oneCell' = true} {w W : World} {A : Option Addr} {n g : Nat} {xs : List α}
end
end Kd
namespace Kd
section
variable {α : Type} {d : Kd α} {e base g : Nat} {ok : Nat → Prop} {w w1 : World} {v : Value} {xs : List α} {o : Obj}
end
end Kd
section
variable {P : Program} {ops : Array Oper} {rest : List Oper} {o : Oper} {a : Act} {Q : Exit → Act → World → Prop}
end
namespace Kd
section
variable {α : Type} {enc : α → Value} {h1 : ∀ x, (enc x).oneCell' = true} {e base g n cap : Nat} {ok : Nat → Prop} {W : World} {xs : List α}
end
end Kd
section
variable {P : Program} {ops : Array Oper} {rest : List Oper} {o : Oper} {a : Act} {Q : Exit → Act → World → Prop}
end
namespace Kd
section
variable {α : Type} {enc : α → Value} {h1 : ∀ x, (enc x).oneCell' = true} {e base g n cap : Nat} {ok : Nat → Prop} {W : World} {xs : List α}
end
end Kd
section
variable {P : Program} {ops : Array Oper} {rest : List Oper} {o : Oper} {a : Act} {Q : Exit → Act → World → Prop} {W : World}
end
section
variable {P : Program} {ops : Array Oper} {o : Oper} {a : Act} {Q : Exit → Act → World → Prop} {Kc : Act → World → Prop}
namespace Kd
variable {α : Type}
end Kd
end
section
variable {P : Program} {tmps : Array Value} {w : World}
end
namespace Kd
section
variable {P : Program} {α : Type}
end
section
variable {P : Program} {ops : Array Oper} {rest : List Oper} {o : Oper} {a : Act} {Q : Exit → Act → World → Prop} {Kc : Act → World → Prop} {α : Type}
end
end Kd
end Go.Proofs.YtjmeignhhheckaaW.PrintWords
namespace Go.Proofs.YtjmeignhhheckaaW.PrintWords
open Go.RowKit
namespace Kd
section
variable {α β : Type} {d : Kd α} {d' : Kd β} {e e' : Nat} {w w1 W : World} {base b : Nat} {ok ok' okv oku : Nat → Prop} {u v : Value} {xs : List α} {ys : List β}
theorem S_over' (h : S d e W base ok u xs) (hty : ∀ k, v.ownBlock = some k → ∃ cells, W.heap[k]? = some (.cells cells e' (0, 0))) (ht : ∀ q, q ∈ e :: d.E → q ≠ e') (hg : W.grownBy w1 v.ownBlock) : S d e w1 base ok u xs := by
  obtain ⟨f, h⟩ := h
  exact ⟨f, R_over' h hty ht hg⟩
end
section
variable {α β : Type} {d : Kd α} {d' : Kd β} {e e' g : Nat} {w w1 W : World} {base b : Nat} {ok ok' okv oku : Nat → Prop} {u v : Value} {xs : List α} {ys : List β}
end
section
variable {P : Program} {ops : Array Oper} {rest : List Oper} {o : Oper} {a : Act} {Q : Exit → Act → World → Prop} {Kc : Act → World → Prop} {α : Type}
end
section
variable {α β : Type} {d : Kd α} {e e' g n cap : Nat} {w w1 W : World} {base : Nat} {ok ok' oki okp : Nat → Prop} {u v : Value} {xs : List α} {i : Int} {c : List Value}
end
section
variable {P : Program} {ops : Array Oper} {rest : List Oper} {o : Oper} {a : Act} {Q : Exit → Act → World → Prop} {α : Type}
end
end Kd
end Go.Proofs.YtjmeignhhheckaaW.PrintWords
namespace Go.Proofs.Ytjmeignhhheckaa.Q
open Go.RowKit Go.Proofs.YtjmeignhhheckaaW.PrintWords Go.Proofs.YtjmeignhhheckaaW.PrintLast Go.Proofs.YtjmeignhhheckaaW.PrintMore
attribute [local go_sem] max2_int min2_int max_two min_two max_three min_three max_four min_four   -- for this text's walks alone
set_option linter.unusedVariables false
set_option linter.unusedSimpArgs false
mutual
def turnstilelaw01_Beyond.l0 : Nat → List Int → Int → Int → Option (Bool)
  | 0, _, _, _ => none
  | k + 1, x0, x3, x4 => if x4 < (x0.length : Int) then (if 0 ≤ x4 then (if (rd x0 x4) < 0 then (turnstilelaw01_Beyond.j1 k x0 x3 x4 true) else (turnstilelaw01_Beyond.j1 k x0 x3 x4 (decide ((rd x0 x4) > 262144)))) else (none)) else (some false)
def turnstilelaw01_Beyond.j1 : Nat → List Int → Int → Int → Bool → Option (Bool)
  | 0, _, _, _, _ => none
  | k + 1, x0, x3, x4, x22 => if x22 = true then (some true) else (if 0 ≤ x4 then (if x4 < (x0.length : Int) then (if (wrap64 (x3 + (rd x0 x4))) > 262144 then (some true) else (turnstilelaw01_Beyond.l0 k x0 (wrap64 (x3 + (rd x0 x4))) (wrap64 (x4 + 1)))) else (none)) else (none))
end
def turnstilelaw01_Beyond.f (k : Nat) (l0 : List Int) : Option (Bool) := turnstilelaw01_Beyond.l0 k l0 0 0
theorem turnstilelaw01_Beyond.mono_l : ∀ k, (∀ y0 y1 y2, LeO (turnstilelaw01_Beyond.l0 k y0 y1 y2) (turnstilelaw01_Beyond.l0 (k + 1) y0 y1 y2)) ∧ (∀ y0 y1 y2 y3, LeO (turnstilelaw01_Beyond.j1 k y0 y1 y2 y3) (turnstilelaw01_Beyond.j1 (k + 1) y0 y1 y2 y3))
  | 0 => ⟨fun _ _ _ r h => by simp [turnstilelaw01_Beyond.l0] at h, fun _ _ _ _ r h => by simp [turnstilelaw01_Beyond.j1] at h⟩
  | k + 1 => by
    obtain ⟨ih0, ih1⟩ := turnstilelaw01_Beyond.mono_l k
    refine ⟨?_, ?_⟩
    · intro y0 y1 y2
      unfold turnstilelaw01_Beyond.l0
      repeat' first
      | (with_reducible exact ih0 _ _ _)
      | (with_reducible exact ih1 _ _ _ _)
      | (with_reducible exact LeO.refl _)
      | (with_reducible exact LeO.none _)
      | (with_reducible refine LeO.ite ?_ ?_)
      | (with_reducible refine LeO.bind ?_ (fun _ => ?_))
      | exact ih0 _ _ _
      | exact ih1 _ _ _ _
      | exact LeO.none _
      | refine LeO.ite ?_ ?_
      | refine LeO.bind ?_ (fun _ => ?_)
    · intro y0 y1 y2 y3
      unfold turnstilelaw01_Beyond.j1
      repeat' first
      | (with_reducible exact ih0 _ _ _)
      | (with_reducible exact ih1 _ _ _ _)
      | (with_reducible exact LeO.refl _)
      | (with_reducible exact LeO.none _)
      | (with_reducible refine LeO.ite ?_ ?_)
      | (with_reducible refine LeO.bind ?_ (fun _ => ?_))
      | exact ih0 _ _ _
      | exact ih1 _ _ _ _
      | exact LeO.none _
      | refine LeO.ite ?_ ?_
      | refine LeO.bind ?_ (fun _ => ?_)
theorem turnstilelaw01_Beyond.mono : ∀ a0 k, LeO (turnstilelaw01_Beyond.f k a0) (turnstilelaw01_Beyond.f (k + 1) a0) := by
  intro a0 k
  obtain ⟨ih0, ih1⟩ := turnstilelaw01_Beyond.mono_l k
  unfold turnstilelaw01_Beyond.f
  repeat' first
      | (with_reducible exact ih0 _ _ _)
      | (with_reducible exact ih1 _ _ _ _)
      | (with_reducible exact LeO.refl _)
      | (with_reducible exact LeO.none _)
      | (with_reducible refine LeO.ite ?_ ?_)
      | (with_reducible refine LeO.bind ?_ (fun _ => ?_))
      | exact ih0 _ _ _
      | exact ih1 _ _ _ _
      | exact LeO.none _
      | refine LeO.ite ?_ ?_
      | refine LeO.bind ?_ (fun _ => ?_)
set_option maxHeartbeats 8000000 in
set_option maxRecDepth 100000 in
theorem turnstilelaw01_Beyond.calls (k : Nat) (A0 : Option Addr) (c0 : Nat) (l0 : List Int) (r : Bool) (w : World) (hr0 : Kd.C (Kd.int .i64) w A0 l0.length l0) (hc0 : l0.length ≤ c0) (h : turnstilelaw01_Beyond.f k l0 = some r) :
    Calls Try.prog 13 #[.slice A0 l0.length c0] w fun e w' => e = .returned (.bool r) ∧ Drawn0 w w' := by
  have HR0 := Aside0.mk hr0
  have HC0 := Aside0.mk hc0
  clear hr0 hc0
  have H : (turnstilelaw01_Beyond.l0 k l0 0 0) = some r := h
  clear h
  have H' := Aside0.mk H
  clear H
  go_enter Try.func13, Try.ntmps13
  go_wp2
  go_loopg [3, 4] k (fun kq v3 v4 w' => ∃ (x3_1 : Int) (x4_1 : Int), v3 = .int .i64 x3_1 ∧ v4 = .int .i64 x4_1 ∧ Aside0 (turnstilelaw01_Beyond.l0 kq l0 x3_1 x4_1 = some r) ∧ Aside0 (kq ≤ k) ∧ Drawn0 w w')
  case atStart => exact ⟨(0), (0), (by first | rfl | (simp; done) | (simp [*]; done)), (by first | rfl | (simp; done) | (simp [*]; done)), H', ⟨Nat.le_refl _⟩, by repeat (first | exact Drawn0.refl _ | apply Drawn0.step)⟩
  case round =>
    clear H'
    try clear c1
    obtain ⟨x3_1, x4_1, rfl, rfl, HA, HK1, ⟨m1, rfl⟩⟩ := hrel
    cases gk with
    | zero => exact absurd HA.out (by simp [turnstilelaw01_Beyond.l0])
    | succ k1 =>
      have H := HA.out
      clear HA
      simp only [turnstilelaw01_Beyond.l0] at H
      by_cases c2 : x4_1 < (l0.length : Int)
      · rw [if_pos c2] at H
        have c2b0 : decide (x4_1 < (l0.length : Int)) = true := decide_eq_true c2
        clear c2
        have HC3 := Aside0.mk H
        clear H
        go_upto_region 5 with (fail)
        go_cut [22] (fun v22 wc => ∃ (kq : Nat) (x22_2 : Bool), v22 = .bool x22_2 ∧ Aside0 (turnstilelaw01_Beyond.j1 kq l0 x3_1 x4_1 x22_2 = some r) ∧ Aside0 (kq ≤ k1) ∧ Drawn0 w wc)
        case first =>
          have H := HC3.out
          clear HC3
          by_cases c4 : 0 ≤ x4_1
          · rw [if_pos c4] at H
            have c4b0 : decide (0 ≤ x4_1) = true := decide_eq_true c4
            clear c4
            (first | rw [c4b0] | (simp only [i64_w, i32_w]; rw [c4b0]) | skip)
            by_cases c5 : (rd l0 x4_1) < 0
            · rw [if_pos c5] at H
              have c5b0 : decide ((rd l0 x4_1) < 0) = true := decide_eq_true c5
              clear c5
              have H' := Aside0.mk H
              clear H
              have p101 : 0 ≤ (x4_1 : Int) := of_decide_eq_true (by first | (with_reducible assumption) | assumption)
              have q101 : x4_1 < (l0.length : Int) := of_decide_eq_true (by first | (with_reducible assumption) | assumption)
              obtain ⟨ad101, e101, hx101_0⟩ := Kd.at_int HR0.out x4_1 p101 q101
              cases e101
              replace p101 := eq_true p101
              replace q101 := eq_true q101
              go_wp2
              go_meet
              case rel => exact ⟨_, (true), (by first | rfl | (simp; done) | (simp [*]; done)), H', ⟨by have := HK1.out; first | omega | exact Nat.le_refl _⟩, by repeat (first | exact Drawn0.refl _ | apply Drawn0.step)⟩
            · rw [if_neg c5] at H
              have c5b0 : decide ((rd l0 x4_1) < 0) = false := decide_eq_false c5
              clear c5
              have H' := Aside0.mk H
              clear H
              have p101 : 0 ≤ (x4_1 : Int) := of_decide_eq_true (by first | (with_reducible assumption) | assumption)
              have q101 : x4_1 < (l0.length : Int) := of_decide_eq_true (by first | (with_reducible assumption) | assumption)
              obtain ⟨ad101, e101, hx101_0⟩ := Kd.at_int HR0.out x4_1 p101 q101
              cases e101
              replace p101 := eq_true p101
              replace q101 := eq_true q101
              have p102 : 0 ≤ (x4_1 : Int) := of_decide_eq_true (by first | (with_reducible assumption) | assumption)
              have q102 : x4_1 < (l0.length : Int) := of_decide_eq_true (by first | (with_reducible assumption) | assumption)
              obtain ⟨ad102, e102, hx102_0⟩ := Kd.at_int HR0.out x4_1 p102 q102
              obtain rfl : ad101 = ad102 := (by injection e102)
              replace p102 := eq_true p102
              replace q102 := eq_true q102
              go_wp2
              go_meet
              case rel => exact ⟨_, (decide ((rd l0 x4_1) > 262144)), (by first | rfl | (simp; done) | (simp [*]; done)), H', ⟨by have := HK1.out; first | omega | exact Nat.le_refl _⟩, by repeat (first | exact Drawn0.refl _ | apply Drawn0.step)⟩
          · rw [if_neg c4] at H
            exact absurd H (by simp)
        case rest =>
          clear HC3
          try clear c1
          try clear p1
          try clear q1
          try clear hx1
          try clear c2
          try clear c2b0
          try clear p2
          try clear c4
          try clear c4b0
          try clear c5
          try clear c5b0
          try clear hx101_0
          try clear hx102_0
          try clear p101
          try clear p102
          try clear q101
          try clear q102
          obtain ⟨kq, x22_2, rfl, HA, HJ2, ⟨mc2, rfl⟩⟩ := hcut
          cases kq with
          | zero => exact absurd HA.out (by simp [turnstilelaw01_Beyond.j1])
          | succ kj2 =>
            have H := HA.out
            clear HA
            simp only [turnstilelaw01_Beyond.j1] at H
            by_cases c6 : x22_2 = true
            · subst c6
              have H1 : (some true) = some r := by rw [if_pos rfl] at H; exact H
              clear H
              have H := H1
              clear H1
              obtain rfl := Option.some.inj H
              go_wp2
              go_ret
              exact ⟨by first | rfl | (simp; done) | (simp [*]; done), by repeat (first | exact Drawn0.refl _ | apply Drawn0.step)⟩
            · replace c6 := Bool.eq_false_iff.mpr c6
              subst c6
              have H1 : (if 0 ≤ x4_1 then (if x4_1 < (l0.length : Int) then (if (wrap64 (x3_1 + (rd l0 x4_1))) > 262144 then (some true) else (turnstilelaw01_Beyond.l0 kj2 l0 (wrap64 (x3_1 + (rd l0 x4_1))) (wrap64 (x4_1 + 1)))) else (none)) else (none)) = some r := by rw [if_neg (show ¬ (false = true) by decide)] at H; exact H
              clear H
              have H := H1
              clear H1
              by_cases c7 : 0 ≤ x4_1
              · rw [if_pos c7] at H
                have c7b0 : decide (0 ≤ x4_1) = true := decide_eq_true c7
                clear c7
                by_cases c8 : x4_1 < (l0.length : Int)
                · rw [if_pos c8] at H
                  have c8b0 : decide (x4_1 < (l0.length : Int)) = true := decide_eq_true c8
                  clear c8
                  by_cases c9 : (wrap64 (x3_1 + (rd l0 x4_1))) > 262144
                  · rw [if_pos c9] at H
                    have c9b0 : decide (262144 < (wrap64 (x3_1 + (rd l0 x4_1)))) = true := decide_eq_true c9
                    clear c9
                    obtain rfl := Option.some.inj H
                    have p103 : 0 ≤ (x4_1 : Int) := of_decide_eq_true (by first | (with_reducible assumption) | assumption)
                    have q103 : x4_1 < (l0.length : Int) := of_decide_eq_true (by first | (with_reducible assumption) | assumption)
                    obtain ⟨ad103, e103, hx103_0⟩ := Kd.at_int HR0.out x4_1 p103 q103
                    cases e103
                    replace p103 := eq_true p103
                    replace q103 := eq_true q103
                    go_wp2
                    go_ret
                    exact ⟨by first | rfl | (simp; done) | (simp [*]; done), by repeat (first | exact Drawn0.refl _ | apply Drawn0.step)⟩
                  · rw [if_neg c9] at H
                    have c9b0 : decide (262144 < (wrap64 (x3_1 + (rd l0 x4_1)))) = false := decide_eq_false c9
                    clear c9
                    have H' := Aside0.mk H
                    clear H
                    have p103 : 0 ≤ (x4_1 : Int) := of_decide_eq_true (by first | (with_reducible assumption) | assumption)
                    have q103 : x4_1 < (l0.length : Int) := of_decide_eq_true (by first | (with_reducible assumption) | assumption)
                    obtain ⟨ad103, e103, hx103_0⟩ := Kd.at_int HR0.out x4_1 p103 q103
                    cases e103
                    replace p103 := eq_true p103
                    replace q103 := eq_true q103
                    go_wp2
                    go_roundg kj2
                    case measure => have := HK1.out; have := HJ2.out; omega
                    case rel => exact ⟨(wrap64 (x3_1 + (rd l0 x4_1))), (wrap64 (x4_1 + 1)), (by first | rfl | (simp; done) | (simp [*]; done)), (by first | rfl | (simp; done) | (simp [*]; done)), H', ⟨by have := HK1.out; have := HJ2.out; omega⟩, by repeat (first | exact Drawn0.refl _ | apply Drawn0.step)⟩
                · rw [if_neg c8] at H
                  exact absurd H (by simp)
              · rw [if_neg c7] at H
                exact absurd H (by simp)
      · rw [if_neg c2] at H
        have c2b0 : decide (x4_1 < (l0.length : Int)) = false := decide_eq_false c2
        clear c2
        obtain rfl := Option.some.inj H
        go_wp2
        go_ret
        exact ⟨by first | rfl | (simp; done) | (simp [*]; done), by repeat (first | exact Drawn0.refl _ | apply Drawn0.step)⟩
end Go.Proofs.Ytjmeignhhheckaa.Q
namespace Go.Proofs.Ytjmeignhhheckaa.Q
open Go.RowKit Go.Proofs.YtjmeignhhheckaaW.PrintWords Go.Proofs.YtjmeignhhheckaaW.PrintLast Go.Proofs.YtjmeignhhheckaaW.PrintMore
attribute [local go_sem] max2_int min2_int max_two min_two max_three min_three max_four min_four   -- for this text's walks alone
set_option linter.unusedVariables false
set_option linter.unusedSimpArgs false
def turnstilelaw01_counted.f (a0 : Int) : Option (Int) := if a0 < 0 then (some 262145) else (some (wrap64 (262144 - a0)))
set_option maxHeartbeats 8000000 in
set_option maxRecDepth 100000 in
theorem turnstilelaw01_counted.calls (a0 : Int) (r : Int) (w : World) (h : turnstilelaw01_counted.f a0 = some r) :
    Calls Try.prog 55 #[.int .i64 a0] w fun e w' => e = .returned (.int .i64 r) ∧ Drawn0 w w' := by
  have H : (if a0 < 0 then (some 262145) else (some (wrap64 (262144 - a0)))) = some r := h
  clear h
  by_cases c2 : a0 < 0
  · rw [if_pos c2] at H
    have c2b0 : decide (a0 < 0) = true := decide_eq_true c2
    clear c2
    obtain rfl := Option.some.inj H
    go_enter Try.func55, Try.ntmps55
    go_wp2
    go_ret
    exact ⟨by first | rfl | (simp; done) | (simp [*]; done), by repeat (first | exact Drawn0.refl _ | apply Drawn0.step)⟩
  · rw [if_neg c2] at H
    have c2b0 : decide (a0 < 0) = false := decide_eq_false c2
    clear c2
    obtain rfl := Option.some.inj H
    go_enter Try.func55, Try.ntmps55
    go_wp2
    go_ret
    exact ⟨by first | rfl | (simp; done) | (simp [*]; done), by repeat (first | exact Drawn0.refl _ | apply Drawn0.step)⟩
end Go.Proofs.Ytjmeignhhheckaa.Q
namespace Go.Proofs.Ytjmeignhhheckaa.Q
open Go.RowKit Go.Proofs.YtjmeignhhheckaaW.PrintWords Go.Proofs.YtjmeignhhheckaaW.PrintLast Go.Proofs.YtjmeignhhheckaaW.PrintMore
attribute [local go_sem] max2_int min2_int max_two min_two max_three min_three max_four min_four   -- for this text's walks alone
set_option linter.unusedVariables false
set_option linter.unusedSimpArgs false
def turnstilelaw01_GraphSize.l0 : Nat → Int → Int → List Bool → Int → List (S36) → Option (Int)
  | 0, _, _, _, _, _ => none
  | k + 1, x3, x4, x105000, x105001, x105002 => if x4 < (x105002.length : Int) then (if x3 ≥ 0 then (if 0 ≤ x4 then (turnstilelaw01_GraphSize.l0 k (wrap64 (x3 - (((rd_T36 x105002 x4).f0).length : Int))) (wrap64 (x4 + 1)) x105000 x105001 x105002) else (none)) else ((turnstilelaw01_counted.f x3).bind fun t106 => (some t106))) else ((turnstilelaw01_counted.f x3).bind fun t107 => (some t107))
def turnstilelaw01_GraphSize.f (k : Nat) (l0_0 : List Bool) (a0_1 : Int) (l0_2 : List (S36)) : Option (Int) := turnstilelaw01_GraphSize.l0 k (wrap64 ((wrap64 (262144 - (l0_0.length : Int))) - (l0_2.length : Int))) 0 l0_0 a0_1 l0_2
theorem turnstilelaw01_GraphSize.mono_l : ∀ k, (∀ y0 y1 y2 y3 y4, LeO (turnstilelaw01_GraphSize.l0 k y0 y1 y2 y3 y4) (turnstilelaw01_GraphSize.l0 (k + 1) y0 y1 y2 y3 y4))
  | 0 => fun _ _ _ _ _ r h => by simp [turnstilelaw01_GraphSize.l0] at h
  | k + 1 => by
    have ih0 := turnstilelaw01_GraphSize.mono_l k
    · intro y0 y1 y2 y3 y4
      unfold turnstilelaw01_GraphSize.l0
      repeat' first
      | (with_reducible exact ih0 _ _ _ _ _)
      | (with_reducible exact LeO.refl _)
      | (with_reducible exact LeO.none _)
      | (with_reducible refine LeO.ite ?_ ?_)
      | (with_reducible refine LeO.bind ?_ (fun _ => ?_))
      | exact ih0 _ _ _ _ _
      | exact LeO.none _
      | refine LeO.ite ?_ ?_
      | refine LeO.bind ?_ (fun _ => ?_)
theorem turnstilelaw01_GraphSize.mono : ∀ a0 a1 a2 k, LeO (turnstilelaw01_GraphSize.f k a0 a1 a2) (turnstilelaw01_GraphSize.f (k + 1) a0 a1 a2) := by
  intro a0 a1 a2 k
  have ih0 := turnstilelaw01_GraphSize.mono_l k
  unfold turnstilelaw01_GraphSize.f
  repeat' first
      | (with_reducible exact ih0 _ _ _ _ _)
      | (with_reducible exact LeO.refl _)
      | (with_reducible exact LeO.none _)
      | (with_reducible refine LeO.ite ?_ ?_)
      | (with_reducible refine LeO.bind ?_ (fun _ => ?_))
      | exact ih0 _ _ _ _ _
      | exact LeO.none _
      | refine LeO.ite ?_ ?_
      | refine LeO.bind ?_ (fun _ => ?_)
set_option maxHeartbeats 8000000 in
set_option maxRecDepth 100000 in
theorem turnstilelaw01_GraphSize.calls (k : Nat) (A0_0 : Option Addr) (c0_0 : Nat) (l0_0 : List Bool) (a0_1 : Int) (A0_2 : Option Addr) (c0_2 : Nat) (l0_2 : List (S36)) (r : Int) (w : World) (hr0_0 : Kd.C Kd.bool w A0_0 l0_0.length l0_0) (hc0_0 : l0_0.length ≤ c0_0) (hr0_2 : Kd.C k36 w A0_2 l0_2.length l0_2) (hc0_2 : l0_2.length ≤ c0_2) (h : turnstilelaw01_GraphSize.f k l0_0 a0_1 l0_2 = some r) :
    Calls Try.prog 14 #[.agg #[.slice A0_0 l0_0.length c0_0, .int .i64 a0_1, .slice A0_2 l0_2.length c0_2]] w fun e w' => e = .returned (.int .i64 r) ∧ Below w.heap.size w w' := by
  have hu25 := Try.underlying25
  have HR0_0 := Aside0.mk hr0_0
  have HC0_0 := Aside0.mk hc0_0
  clear hr0_0 hc0_0
  have HR0_2 := Aside0.mk hr0_2
  have HC0_2 := Aside0.mk hc0_2
  clear hr0_2 hc0_2
  have HB := Aside0.mk (Below.refl w.heap.size w)
  have H : (turnstilelaw01_GraphSize.l0 k (wrap64 ((wrap64 (262144 - (l0_0.length : Int))) - (l0_2.length : Int))) 0 l0_0 a0_1 l0_2) = some r := h
  clear h
  have H' := Aside0.mk H
  clear H
  go_enter Try.func14, Try.ntmps14
  go_wp2_with (first | ((with_reducible refine gate_dst (N := 1) rfl ?_); refine box_event ?hg (N := 1) ?hd (cs := #[.slice A0_0 l0_0.length c0_0, .int .i64 a0_1, .slice A0_2 l0_2.length c0_2]) (t := 25) ?hr ?_; (case hd => rfl); (case hg => rfl); (case hr => first | (go_simp; done) | (go_simp; rfl)); intro gb104 hg w2 hbox hb; have n0_ := Aside0.mk (below_step (by repeat (first | (with_reducible first | exact HB.out | apply below_alloc | apply pw_below_drewN | apply below_drew1) | exact HB.out)) hb); have n1_ := Aside0.mk (hbox); have n2_ := Aside0.mk ((by rw [hg]; exact (below_size (by repeat (first | (with_reducible first | exact HB.out | apply below_alloc | apply pw_below_drewN | apply below_drew1) | exact HB.out))) : w.heap.size ≤ gb104)); have n3_ := Aside0.mk ((by rw [hg]; exact (below_size (by repeat (first | (with_reducible first | exact HB.out | apply below_alloc | apply pw_below_drewN | apply below_drew1) | exact HB.out))) : w.heap.size ≤ gb104)); clear HB; have HB := n0_; have BK104 := n1_; have GW104 := n2_; have GE104 := n3_; clear n0_ n1_ n2_ n3_; clear hb hbox hg; have hcz3_0 : w2.cell? ⟨gb104, 0, none⟩ = some (.slice A0_0 l0_0.length c0_0) := (blk_cell BK104.out 0).trans rfl; have hcz3_1 : w2.cell? ⟨gb104, 1, none⟩ = some (.int .i64 a0_1) := (blk_cell BK104.out 1).trans rfl; have hcz3_2 : w2.cell? ⟨gb104, 2, none⟩ = some (.slice A0_2 l0_2.length c0_2) := (blk_cell BK104.out 2).trans rfl; have hfz3_0 := blk_frozen BK104.out 0; have hfz3_1 := blk_frozen BK104.out 1; have hfz3_2 := blk_frozen BK104.out 2))
  go_loopg [3, 4] k (fun kq v3 v4 w' => ∃ (x3_1 : Int) (x4_1 : Int), v3 = .int .i64 x3_1 ∧ v4 = .int .i64 x4_1 ∧ Aside0 (turnstilelaw01_GraphSize.l0 kq x3_1 x4_1 l0_0 a0_1 l0_2 = some r) ∧ Aside0 (kq ≤ k) ∧ Aside0 (w'.heap[gb104]? = some (.cells #[(.slice A0_0 l0_0.length c0_0), .int .i64 a0_1, (.slice A0_2 l0_2.length c0_2)] 25 (0, 0))) ∧ Aside0 (Below w.heap.size w w'))
  case atStart => exact ⟨(wrap64 ((wrap64 (262144 - (l0_0.length : Int))) - (l0_2.length : Int))), (0), (by first | rfl | (simp; done) | (simp [*]; done)), (by first | rfl | (simp; done) | (simp [*]; done)), H', ⟨Nat.le_refl _⟩, ⟨by (with_reducible repeat (first | refine blk_drewN ?_ _ | refine blk_drew ?_ | refine blk_alloc ?_ _)); exact BK104.out⟩, ⟨by repeat (first | (with_reducible first | exact HB.out | apply below_alloc | apply pw_below_drewN | apply below_drew1 | refine below_set ?_ GE104.out) | exact HB.out)⟩⟩
  case round =>
    clear H'
    try clear c1
    try clear p2
    try clear hcz3_0
    try clear hcz3_1
    try clear hcz3_2
    try clear hfz3_0
    try clear hfz3_1
    try clear hfz3_2
    obtain ⟨x3_1, x4_1, rfl, rfl, HA, HK1, BK104, HB⟩ := hrel
    cases gk with
    | zero => exact absurd HA.out (by simp [turnstilelaw01_GraphSize.l0])
    | succ k1 =>
      have H := HA.out
      clear HA
      simp only [turnstilelaw01_GraphSize.l0] at H
      by_cases c4 : x4_1 < (l0_2.length : Int)
      · rw [if_pos c4] at H
        have c4b0 : decide (x4_1 < (l0_2.length : Int)) = true := decide_eq_true c4
        clear c4
        by_cases c5 : x3_1 ≥ 0
        · rw [if_pos c5] at H
          have c5b0 : decide (0 ≤ x3_1) = true := decide_eq_true c5
          clear c5
          by_cases c6 : 0 ≤ x4_1
          · rw [if_pos c6] at H
            have c6b0 : decide (0 ≤ x4_1) = true := decide_eq_true c6
            clear c6
            have H' := Aside0.mk H
            clear H
            have hcz7_0 : wr.cell? ⟨gb104, 0, none⟩ = some (.slice A0_0 l0_0.length c0_0) := (blk_cell BK104.out 0).trans rfl
            have hcz7_1 : wr.cell? ⟨gb104, 1, none⟩ = some (.int .i64 a0_1) := (blk_cell BK104.out 1).trans rfl
            have hcz7_2 : wr.cell? ⟨gb104, 2, none⟩ = some (.slice A0_2 l0_2.length c0_2) := (blk_cell BK104.out 2).trans rfl
            have hfz7_0 := blk_frozen BK104.out 0
            have hfz7_1 := blk_frozen BK104.out 1
            have hfz7_2 := blk_frozen BK104.out 2
            have p105 : 0 ≤ (x4_1 : Int) := of_decide_eq_true (by first | (with_reducible assumption) | assumption)
            have q105 : x4_1 < (l0_2.length : Int) := of_decide_eq_true (by first | (with_reducible assumption) | assumption)
            obtain ⟨ad105, A105_0, c105_0, e105, hx105_0, hx105_1, hx105_2, hx105_3, hx105_4, hl105_0, hi105_0⟩ := at_T36 HR0_2.out x4_1 p105 q105
            cases e105
            replace hx105_0 := (HB.out.cell (World.block_lt_of_cell? w _ hx105_0)).trans hx105_0
            replace hx105_1 := (HB.out.cell (World.block_lt_of_cell? w _ hx105_1)).trans hx105_1
            replace hx105_2 := (HB.out.cell (World.block_lt_of_cell? w _ hx105_2)).trans hx105_2
            replace hx105_3 := (HB.out.cell (World.block_lt_of_cell? w _ hx105_3)).trans hx105_3
            replace hx105_4 := (HB.out.cell (World.block_lt_of_cell? w _ hx105_4)).trans hx105_4
            have HR105_0 := Aside0.mk hi105_0
            have HC105_0 := Aside0.mk hl105_0
            clear hi105_0 hl105_0
            replace p105 := eq_true p105
            replace q105 := eq_true q105
            go_wp2
            go_roundg k1
            case measure => have := HK1.out; omega
            case rel => exact ⟨(wrap64 (x3_1 - (((rd_T36 l0_2 x4_1).f0).length : Int))), (wrap64 (x4_1 + 1)), (by first | rfl | (simp; done) | (simp [*]; done)), (by first | rfl | (simp; done) | (simp [*]; done)), H', ⟨by have := HK1.out; omega⟩, ⟨by (with_reducible repeat (first | refine blk_drewN ?_ _ | refine blk_drew ?_ | refine blk_alloc ?_ _)); exact BK104.out⟩, ⟨by repeat (first | (with_reducible first | exact HB.out | apply below_alloc | apply pw_below_drewN | apply below_drew1 | refine below_set ?_ GE104.out) | exact HB.out)⟩⟩
          · rw [if_neg c6] at H
            exact absurd H (by simp)
        · rw [if_neg c5] at H
          have c5b0 : decide (0 ≤ x3_1) = false := decide_eq_false c5
          clear c5
          replace H := Option.bind_eq_some_iff.mp H
          obtain ⟨t106, A80, H⟩ := H
          replace H : (some t106) = some r := H
          have A8 := Aside0.mk A80
          clear A80
          obtain rfl := Option.some.inj H
          have hcz9_0 : wr.cell? ⟨gb104, 0, none⟩ = some (.slice A0_0 l0_0.length c0_0) := (blk_cell BK104.out 0).trans rfl
          have hcz9_1 : wr.cell? ⟨gb104, 1, none⟩ = some (.int .i64 a0_1) := (blk_cell BK104.out 1).trans rfl
          have hcz9_2 : wr.cell? ⟨gb104, 2, none⟩ = some (.slice A0_2 l0_2.length c0_2) := (blk_cell BK104.out 2).trans rfl
          have hfz9_0 := blk_frozen BK104.out 0
          have hfz9_1 := blk_frozen BK104.out 1
          have hfz9_2 := blk_frozen BK104.out 2
          go_wp2_with (first | ((with_reducible refine gate_callee (f := 55) rfl ?_); refine goesL_ (some 34) rfl rfl Try.func55 (by kernel_rfl) rfl #[.int .i64 x3_1] rfl (by (try simp only [List.map_toArray, List.map_cons, List.map_nil]); first | done | rfl | (simp only [List.length_drop, List.length_take]; rfl)) ?_; (with_reducible refine (turnstilelaw01_counted.calls x3_1 t106 _ A8.out).mono ?_); rintro e w' ⟨rfl, ⟨nd, rfl⟩⟩; refine ⟨_, rfl, ?_⟩))
          go_ret
          exact ⟨by first | rfl | (simp [errW_none, errW_some] <;> rfl) | (simp [*, errW_none, errW_some] <;> rfl), by repeat (first | (with_reducible first | exact HB.out | apply below_alloc | apply pw_below_drewN | apply below_drew1 | refine below_set ?_ GE104.out) | exact HB.out)⟩
      · rw [if_neg c4] at H
        have c4b0 : decide (x4_1 < (l0_2.length : Int)) = false := decide_eq_false c4
        clear c4
        replace H := Option.bind_eq_some_iff.mp H
        obtain ⟨t107, A100, H⟩ := H
        replace H : (some t107) = some r := H
        have A10 := Aside0.mk A100
        clear A100
        obtain rfl := Option.some.inj H
        have hcz11_0 : wr.cell? ⟨gb104, 0, none⟩ = some (.slice A0_0 l0_0.length c0_0) := (blk_cell BK104.out 0).trans rfl
        have hcz11_1 : wr.cell? ⟨gb104, 1, none⟩ = some (.int .i64 a0_1) := (blk_cell BK104.out 1).trans rfl
        have hcz11_2 : wr.cell? ⟨gb104, 2, none⟩ = some (.slice A0_2 l0_2.length c0_2) := (blk_cell BK104.out 2).trans rfl
        have hfz11_0 := blk_frozen BK104.out 0
        have hfz11_1 := blk_frozen BK104.out 1
        have hfz11_2 := blk_frozen BK104.out 2
        go_wp2_with (first | ((with_reducible refine gate_callee (f := 55) rfl ?_); refine goesL_ (some 34) rfl rfl Try.func55 (by kernel_rfl) rfl #[.int .i64 x3_1] rfl (by (try simp only [List.map_toArray, List.map_cons, List.map_nil]); first | done | rfl | (simp only [List.length_drop, List.length_take]; rfl)) ?_; (with_reducible refine (turnstilelaw01_counted.calls x3_1 t107 _ A10.out).mono ?_); rintro e w' ⟨rfl, ⟨nd, rfl⟩⟩; refine ⟨_, rfl, ?_⟩))
        go_ret
        exact ⟨by first | rfl | (simp [errW_none, errW_some] <;> rfl) | (simp [*, errW_none, errW_some] <;> rfl), by repeat (first | (with_reducible first | exact HB.out | apply below_alloc | apply pw_below_drewN | apply below_drew1 | refine below_set ?_ GE104.out) | exact HB.out)⟩
end Go.Proofs.Ytjmeignhhheckaa.Q
namespace Go.Proofs.Ytjmeignhhheckaa.H
open Go.RowKit Go.Maps Go.Proofs.YtjmeignhhheckaaW.PrintWords Go.Proofs.YtjmeignhhheckaaW.PrintLast Go.Proofs.Ytjmeignhhheckaa.Q Go.Proofs.Ytjmeignhhheckaa.D
set_option maxRecDepth 100000
theorem fw64 {x : Int} (h0 : -1000000000000000000 ≤ x) (h1 : x ≤ 1000000000000000000) : Go.RowKit.wrap64 x = x := by
  unfold Go.RowKit.wrap64; omega
theorem fstep {i : Nat} (h : i ≤ 500000000000000000) : Go.RowKit.wrap64 ((i : Int) + 1) = ((i + 1 : Nat) : Int) := by
  rw [fw64 (by omega) (by omega)]; omega
theorem fcounted (x : Int) : ∃ t, turnstilelaw01_counted.f x = some t := by
  unfold turnstilelaw01_counted.f
  split
  · exact ⟨_, rfl⟩
  · exact ⟨_, rfl⟩
theorem fsize_l0 (xs : List Bool) (sites : Int) (bs : List S36) (hs : bs.length ≤ 140737488351232) : ∀ (d i k : Nat) (x : Int), i + d = bs.length → d < k → ∃ t, turnstilelaw01_GraphSize.l0 k x i xs sites bs = some t := by
  intro d
  induction d with
  | zero =>
    intro i k x hi hk
    obtain ⟨k, rfl⟩ : ∃ m, k = m + 1 := ⟨k - 1, by omega⟩
    simp only [turnstilelaw01_GraphSize.l0]
    rw [if_neg (by omega)]
    obtain ⟨t, ht⟩ := fcounted x
    rw [ht]
    exact ⟨t, rfl⟩
  | succ d ih =>
    intro i k x hi hk
    obtain ⟨k, rfl⟩ : ∃ m, k = m + 1 := ⟨k - 1, by omega⟩
    simp only [turnstilelaw01_GraphSize.l0]
    rw [if_pos (by omega)]
    split
    · rw [if_pos (by omega), fstep (by omega)]
      exact ih (i + 1) k _ (by omega) (by omega)
    · obtain ⟨t, ht⟩ := fcounted x
      rw [ht]
      exact ⟨t, rfl⟩
theorem fsize (xs : List Bool) (sites : Int) (bs : List S36) (hs : bs.length ≤ 140737488351232) (k : Nat) (hk : bs.length < k) : ∃ t, turnstilelaw01_GraphSize.f k xs sites bs = some t := by
  unfold turnstilelaw01_GraphSize.f
  exact fsize_l0 xs sites bs hs bs.length 0 k _ (by omega) (by omega)
theorem fbeyond (t : Int) (k : Nat) (hk : 10 ≤ k) : ∃ b, turnstilelaw01_Beyond.f k [t] = some b := by
  obtain ⟨k, rfl⟩ : ∃ m, k = m + 5 := ⟨k - 5, by omega⟩
  unfold turnstilelaw01_Beyond.f
  by_cases h : t < 0
  · exact ⟨true, by simp [turnstilelaw01_Beyond.l0, turnstilelaw01_Beyond.j1, rd, h]⟩
  · by_cases h2 : t > 262144
    · exact ⟨true, by simp [turnstilelaw01_Beyond.l0, turnstilelaw01_Beyond.j1, rd, h, h2]⟩
    · have hw : Go.RowKit.wrap64 t = t := fw64 (by omega) (by omega)
      exact ⟨false, by simp [turnstilelaw01_Beyond.l0, turnstilelaw01_Beyond.j1, rd, h, h2, hw, show Go.RowKit.wrap64 1 = 1 from fw64 (by omega) (by omega)]⟩
/-- what flow.Reach, flow.Dom say -/
theorem rd_fold (n : Nat) : ∀ (ord : List Int) (x : List Bool), x.length = n → (∀ o ∈ ord, 0 ≤ o ∧ o < n) → (ord.foldl (fun x o => x.set o.toNat true) x).length = n ∧ ∀ b : Nat, b < n → rdOf false (ord.foldl (fun x o => x.set o.toNat true) x) (b : Int) = (rdOf false x b || decide ((b : Int) ∈ ord)) := by
  intro ord
  induction ord with
  | nil => intro x hx _; exact ⟨hx, fun b _ => by simp⟩
  | cons o ord ih =>
    intro x hx ho
    have h1 := ho o (by simp)
    obtain ⟨h2, h3⟩ := ih (x.set o.toNat true) (by rw [List.length_set]; exact hx) (fun p hp => ho p (by simp [hp]))
    refine ⟨h2, fun b hb => ?_⟩
    rw [List.foldl_cons, h3 b hb, rdOf_set h1.1 (by omega) (Int.natCast_nonneg b)]
    by_cases e : (b : Int) = o
    · simp [e]
    · simp [e]
structure FEnv (bs : List S36) : Prop where
  ne : 0 < bs.length
  nb : bs.length ≤ 4096
  T : okT bs
theorem FEnv.of {xs : List Bool} {sites : Int} {bs : List S36} (hE : gE xs sites bs = 0) : FEnv bs := ⟨(gE_gok hE).ne, (gE_gok hE).nb, (gE_gok hE).T⟩
def domF (bs : List S36) : List Int := (domR bs).set 0 (-1)
section
variable {bs : List S36}
theorem FEnv.ord (h : FEnv bs) : OrderOk bs (orderS bs) := orderS_ok bs h.T h.ne
theorem FEnv.rlen (h : FEnv bs) : (reachS bs).length = bs.length := (rd_fold bs.length (orderS bs) _ (by simp) h.ord.rng).1
theorem FEnv.reach (h : FEnv bs) (b : Nat) (hb : b < bs.length) : rdOf false (reachS bs) (b : Int) = decide ((b : Int) ∈ orderS bs) := by
  rw [reachS, (rd_fold bs.length (orderS bs) _ (by simp) h.ord.rng).2 b hb]
  have : rdOf false (List.replicate bs.length false) (b : Int) = false := by
    unfold rdOf
    rw [List.getD_eq_getElem?_getD, List.getElem?_replicate]
    split <;> rfl
  rw [this, Bool.false_or]
theorem FEnv.olen (h : FEnv bs) : (orderS bs).length ≤ bs.length := by
  have O := h.ord
  have : ((orderS bs).map Int.toNat).length ≤ bs.length := D.nodup_len bs.length _ (by
    refine (List.pairwise_map.2 (O.nd.imp_of_mem (fun ha hb h e => h ?_)))
    have h1 := O.rng _ ha
    have h2 := O.rng _ hb
    omega) (fun i hi => by
    obtain ⟨o, ho, rfl⟩ := List.mem_map.1 hi
    have := O.rng o ho
    omega)
  rwa [List.length_map] at this
theorem FEnv.dlen (h : FEnv bs) : (domF bs).length = bs.length := by
  obtain ⟨_, D', hr, _⟩ := domR_ok bs h.T h.ne
  unfold domF
  rw [List.length_set, hr.len]
theorem FEnv.dget (h : FEnv bs) (b : Nat) : (domF bs).getD b 0 = if b = 0 then -1 else (domR bs).getD b 0 := by
  obtain ⟨_, D', hr, _⟩ := domR_ok bs h.T h.ne
  unfold domF
  rw [D.getD_set_i (by rw [hr.len]; exact h.ne)]
  by_cases e : b = 0
  · rw [if_pos e.symm, if_pos e]
  · rw [if_neg (fun e2 => e e2.symm), if_neg e]
theorem reach_k (xs : List Bool) (sites : Int) (bs : List S36) (hs : smallG bs) : ∃ k0, ∀ k, k0 ≤ k → flow_Reach.f k xs sites bs = some (if gE xs sites bs = 0 then reachS bs else [], gE xs sites bs) := by
  obtain ⟨k0, h⟩ := reach_f xs sites bs hs
  exact ⟨k0, fun k hk => at_rounds (g := fun k => flow_Reach.f k xs sites bs) (fun k => flow_Reach.mono _ _ _ k) hk h⟩
theorem ahead_f (xs : List Bool) (sites : Int) (bs : List S36) (hs : smallG bs) : flow_Ahead.f xs sites bs = some (if gE xs sites bs = 0 then ahS bs else [], gE xs sites bs) := by
  unfold flow_Ahead.f
  rw [check_f xs sites bs hs, Option.bind_some]
  by_cases h : gE xs sites bs = 0
  · have F := FEnv.of h
    rw [if_pos h, if_pos h, h]
    unfold flow_ahead.f
    rw [if_pos ⟨F.ne, by have := F.nb; omega, F.T⟩]
    rfl
  · rw [if_neg h, if_neg h]
theorem dom_f (xs : List Bool) (sites : Int) (bs : List S36) (hs : smallG bs) : flow_Dom.f xs sites bs = some (if gE xs sites bs = 0 then domF bs else [], gE xs sites bs) := by
  unfold flow_Dom.f domS
  rw [if_pos hs]
  by_cases h : gE xs sites bs = 0
  · rw [if_pos h, if_pos h, h]; rfl
  · rw [if_neg h, if_neg h]
end
end Go.Proofs.Ytjmeignhhheckaa.H
namespace Go.Proofs.Ytjmeignhhheckaa.Q
open Go.RowKit Go.Proofs.YtjmeignhhheckaaW.PrintWords Go.Proofs.YtjmeignhhheckaaW.PrintLast Go.Proofs.YtjmeignhhheckaaW.PrintMore
attribute [local go_sem] max2_int min2_int max_two min_two max_three min_three max_four min_four   -- for this text's walks alone
set_option linter.unusedVariables false
set_option linter.unusedSimpArgs false
def flow_Inside.f (l0_0 : List Bool) (a0_1 : Int) (l0_2 : List (S36)) : Option (List Bool × Int) := (flow_check.f l0_0 a0_1 l0_2).bind fun t477 => (if t477 = 0 then ((paths_Sides.f l0_0 a0_1 l0_2).bind fun bt478 => (some (bt478.1, 0))) else (some (([] : List Bool), t477)))
set_option maxHeartbeats 8000000 in
set_option maxRecDepth 100000 in
theorem flow_Inside.calls (A0_0 : Option Addr) (c0_0 : Nat) (l0_0 : List Bool) (a0_1 : Int) (A0_2 : Option Addr) (c0_2 : Nat) (l0_2 : List (S36)) (r1 : List Bool) (r2 : Int) (w : World) (hr0_0 : Kd.C Kd.bool w A0_0 l0_0.length l0_0) (hc0_0 : l0_0.length ≤ c0_0) (hr0_2 : Kd.C k36 w A0_2 l0_2.length l0_2) (hc0_2 : l0_2.length ≤ c0_2) (h : flow_Inside.f l0_0 a0_1 l0_2 = some (r1, r2)) :
    Calls Try.prog 53 #[.agg #[.slice A0_0 l0_0.length c0_0, .int .i64 a0_1, .slice A0_2 l0_2.length c0_2]] w fun e w' => ∃ v0_ : Value, e = .returned (.tuple #[v0_, .int .i64 r2]) ∧ Kd.R Kd.bool 4 w' w.heap.size (fun _ => True) v0_ r1 ∧ Below w.heap.size w w' := by
  have hu25 := Try.underlying25
  have HR0_0 := Aside0.mk hr0_0
  have HC0_0 := Aside0.mk hc0_0
  clear hr0_0 hc0_0
  have HR0_2 := Aside0.mk hr0_2
  have HC0_2 := Aside0.mk hc0_2
  clear hr0_2 hc0_2
  have HB := Aside0.mk (Below.refl w.heap.size w)
  have H : ((flow_check.f l0_0 a0_1 l0_2).bind fun t477 => (if t477 = 0 then ((paths_Sides.f l0_0 a0_1 l0_2).bind fun bt478 => (some (bt478.1, 0))) else (some (([] : List Bool), t477)))) = some (r1, r2) := h
  clear h
  replace H := Option.bind_eq_some_iff.mp H
  obtain ⟨t477, A20, H⟩ := H
  replace H : (if t477 = 0 then ((paths_Sides.f l0_0 a0_1 l0_2).bind fun bt478 => (some (bt478.1, 0))) else (some (([] : List Bool), t477))) = some (r1, r2) := H
  have A2 := Aside0.mk A20
  clear A20
  by_cases c3 : t477 = 0
  · rw [if_pos c3] at H
    have c3b0 : (t477 == 0) = true := beq_iff_eq.mpr c3
    have c3b1 : (t477 != 0) = false := bne_eq_false_iff_eq.mpr c3
    clear c3
    replace H := Option.bind_eq_some_iff.mp H
    obtain ⟨⟨t478, t481⟩, A40, H⟩ := H
    replace H : (some (t478, 0)) = some (r1, r2) := H
    have A4 := Aside0.mk A40
    clear A40
    simp only [Option.some.injEq, Prod.mk.injEq] at H
    obtain ⟨rfl, rfl⟩ := H
    go_enter Try.func53, Try.ntmps53
    go_wp2_with (first | ((with_reducible refine gate_dst (N := 1) rfl ?_); refine box_event ?hg (N := 1) ?hd (cs := #[.slice A0_0 l0_0.length c0_0, .int .i64 a0_1, .slice A0_2 l0_2.length c0_2]) (t := 25) ?hr ?_; (case hd => rfl); (case hg => rfl); (case hr => first | (go_simp; done) | (go_simp; rfl)); intro gb476 hg w5 hbox hb; have n0_ := Aside0.mk (below_step (by repeat (first | (with_reducible first | exact HB.out | apply below_alloc | apply pw_below_drewN | apply below_drew1) | exact HB.out)) hb); have n1_ := Aside0.mk (hbox); have n2_ := Aside0.mk ((by rw [hg]; exact (below_size (by repeat (first | (with_reducible first | exact HB.out | apply below_alloc | apply pw_below_drewN | apply below_drew1) | exact HB.out))) : w.heap.size ≤ gb476)); have n3_ := Aside0.mk ((by rw [hg]; exact (below_size (by repeat (first | (with_reducible first | exact HB.out | apply below_alloc | apply pw_below_drewN | apply below_drew1) | exact HB.out))) : w.heap.size ≤ gb476)); clear HB; have HB := n0_; have BK476 := n1_; have GW476 := n2_; have GE476 := n3_; clear n0_ n1_ n2_ n3_; clear hb hbox hg; have hcz6_0 : w5.cell? ⟨gb476, 0, none⟩ = some (.slice A0_0 l0_0.length c0_0) := (blk_cell BK476.out 0).trans rfl; have hcz6_1 : w5.cell? ⟨gb476, 1, none⟩ = some (.int .i64 a0_1) := (blk_cell BK476.out 1).trans rfl; have hcz6_2 : w5.cell? ⟨gb476, 2, none⟩ = some (.slice A0_2 l0_2.length c0_2) := (blk_cell BK476.out 2).trans rfl; have hfz6_0 := blk_frozen BK476.out 0; have hfz6_1 := blk_frozen BK476.out 1; have hfz6_2 := blk_frozen BK476.out 2) | ((with_reducible refine gate_callee (f := 84) rfl ?_); refine goesL_ (some 8) rfl rfl Try.func84 (by kernel_rfl) rfl #[.agg #[.slice A0_0 l0_0.length c0_0, .int .i64 a0_1, .slice A0_2 l0_2.length c0_2]] rfl (by (try simp only [List.map_toArray, List.map_cons, List.map_nil]); first | done | rfl | (simp only [List.length_drop, List.length_take]; rfl)) ?_; (with_reducible refine (flow_check.calls (fun k_ => k_ < w.heap.size) _ _ l0_0 a0_1 (fun k_ => k_ < w.heap.size) _ _ l0_2 t477 _ ?side1 ?side2 A2.out).mono ?_); (case side1 => exact Kd.V_mk HC0_0.out (Kd.F_below (Kd.C_F Kd.heap_bool HR0_0.out) (by repeat (first | (with_reducible first | exact HB.out | apply below_alloc | apply pw_below_drewN | apply below_drew1 | refine below_set ?_ GE476.out) | exact HB.out)))); (case side2 => exact Kd.V_mk HC0_2.out (Kd.F_below (Kd.C_F k36_heap HR0_2.out) (by repeat (first | (with_reducible first | exact HB.out | apply below_alloc | apply pw_below_drewN | apply below_drew1 | refine below_set ?_ GE476.out) | exact HB.out)))); rintro e w7 ⟨rfl, hb⟩; refine ⟨_, rfl, ?_⟩; have n0_ := Aside0.mk (blk_below (g := gb476) (o := .cells #[.slice A0_0 l0_0.length c0_0, .int .i64 a0_1, .slice A0_2 l0_2.length c0_2] 25 (0, 0)) (by (with_reducible repeat (first | refine blk_drewN ?_ _ | refine blk_drew ?_ | refine blk_alloc ?_ _)); exact BK476.out) hb); have n1_ := Aside0.mk (below_step (by repeat (first | (with_reducible first | exact HB.out | apply below_alloc | apply pw_below_drewN | apply below_drew1 | refine below_set ?_ GE476.out) | exact HB.out)) hb); clear BK476; clear HB; have BK476 := n0_; have HB := n1_; clear n0_ n1_; (try clear hb); (try clear hb2); (try clear hk); (try clear hi); have hcz8_0 : w7.cell? ⟨gb476, 0, none⟩ = some (.slice A0_0 l0_0.length c0_0) := (blk_cell BK476.out 0).trans rfl; have hcz8_1 : w7.cell? ⟨gb476, 1, none⟩ = some (.int .i64 a0_1) := (blk_cell BK476.out 1).trans rfl; have hcz8_2 : w7.cell? ⟨gb476, 2, none⟩ = some (.slice A0_2 l0_2.length c0_2) := (blk_cell BK476.out 2).trans rfl; have hfz8_0 := blk_frozen BK476.out 0; have hfz8_1 := blk_frozen BK476.out 1; have hfz8_2 := blk_frozen BK476.out 2) | ((with_reducible refine gate_callee (f := 89) rfl ?_); refine goesL_ (some 14) rfl rfl Try.func89 (by kernel_rfl) rfl #[.agg #[.slice A0_0 l0_0.length c0_0, .int .i64 a0_1, .slice A0_2 l0_2.length c0_2]] rfl (by (try simp only [List.map_toArray, List.map_cons, List.map_nil]); first | done | rfl | (simp only [List.length_drop, List.length_take]; rfl)) ?_; (with_reducible refine (paths_Sides.calls _ _ l0_0 a0_1 _ _ l0_2 t478 t481 _ ?side1 ?side2 ?side3 ?side4 A4.out).mono ?_); (case side1 => repeat (first | exact (Kd.C_below HR0_0.out HB.out) | (with_reducible refine Kd.C_alloc ?_ _) | (with_reducible refine Kd.C_drewN ?_ _) | (with_reducible refine Kd.C_drew ?_))); (case side2 => exact HC0_0.out); (case side3 => repeat (first | exact (Kd.C_below HR0_2.out HB.out) | (with_reducible refine Kd.C_alloc ?_ _) | (with_reducible refine Kd.C_drewN ?_ _) | (with_reducible refine Kd.C_drew ?_))); (case side4 => exact HC0_2.out); rintro e w9 ⟨v479, v482, rfl, ho0, ho1, hb⟩; refine ⟨_, rfl, ?_⟩; have n0_ := Aside0.mk (Kd.R_lower ho0 (below_size (by repeat (first | (with_reducible first | exact HB.out | apply below_alloc | apply pw_below_drewN | apply below_drew1 | refine below_set ?_ GE476.out) | exact HB.out)))); have n1_ := Aside0.mk (Kd.R_lower ho1 (below_size (by repeat (first | (with_reducible first | exact HB.out | apply below_alloc | apply pw_below_drewN | apply below_drew1 | refine below_set ?_ GE476.out) | exact HB.out)))); have n2_ := Aside0.mk (blk_below (g := gb476) (o := .cells #[.slice A0_0 l0_0.length c0_0, .int .i64 a0_1, .slice A0_2 l0_2.length c0_2] 25 (0, 0)) (by (with_reducible repeat (first | refine blk_drewN ?_ _ | refine blk_drew ?_ | refine blk_alloc ?_ _)); exact BK476.out) hb); have n3_ := Aside0.mk (below_step (by repeat (first | (with_reducible first | exact HB.out | apply below_alloc | apply pw_below_drewN | apply below_drew1 | refine below_set ?_ GE476.out) | exact HB.out)) hb); clear BK476; clear HB; have HO480 := n0_; have HO483 := n1_; have BK476 := n2_; have HB := n3_; clear n0_ n1_ n2_ n3_; (try clear hb); (try clear hb2); (try clear hk); (try clear hi); (try clear ho0); (try clear ho1)))
    go_ret2
    exact ⟨_, by first | rfl | (simp [errW_none, errW_some] <;> rfl) | (simp [*, errW_none, errW_some] <;> rfl), by (with_reducible repeat (first | apply Kd.R_alloc | apply Kd.R_drewN | apply Kd.R_drew)); exact Kd.R_mono HO480.out (fun _ hk => trivial), by repeat (first | (with_reducible first | exact HB.out | apply below_alloc | apply pw_below_drewN | apply below_drew1 | refine below_set ?_ GE476.out) | exact HB.out)⟩
  · rw [if_neg c3] at H
    have c3b0 : (t477 == 0) = false := beq_eq_false_iff_ne.mpr c3
    have c3b1 : (t477 != 0) = true := bne_iff_ne.mpr c3
    simp only [Option.some.injEq, Prod.mk.injEq] at H
    obtain ⟨rfl, rfl⟩ := H
    go_enter Try.func53, Try.ntmps53
    go_wp2_with (first | ((with_reducible refine gate_dst (N := 1) rfl ?_); refine box_event ?hg (N := 1) ?hd (cs := #[.slice A0_0 l0_0.length c0_0, .int .i64 a0_1, .slice A0_2 l0_2.length c0_2]) (t := 25) ?hr ?_; (case hd => rfl); (case hg => rfl); (case hr => first | (go_simp; done) | (go_simp; rfl)); intro gb476 hg w10 hbox hb; have n0_ := Aside0.mk (below_step (by repeat (first | (with_reducible first | exact HB.out | apply below_alloc | apply pw_below_drewN | apply below_drew1) | exact HB.out)) hb); have n1_ := Aside0.mk (hbox); have n2_ := Aside0.mk ((by rw [hg]; exact (below_size (by repeat (first | (with_reducible first | exact HB.out | apply below_alloc | apply pw_below_drewN | apply below_drew1) | exact HB.out))) : w.heap.size ≤ gb476)); have n3_ := Aside0.mk ((by rw [hg]; exact (below_size (by repeat (first | (with_reducible first | exact HB.out | apply below_alloc | apply pw_below_drewN | apply below_drew1) | exact HB.out))) : w.heap.size ≤ gb476)); clear HB; have HB := n0_; have BK476 := n1_; have GW476 := n2_; have GE476 := n3_; clear n0_ n1_ n2_ n3_; clear hb hbox hg; have hcz11_0 : w10.cell? ⟨gb476, 0, none⟩ = some (.slice A0_0 l0_0.length c0_0) := (blk_cell BK476.out 0).trans rfl; have hcz11_1 : w10.cell? ⟨gb476, 1, none⟩ = some (.int .i64 a0_1) := (blk_cell BK476.out 1).trans rfl; have hcz11_2 : w10.cell? ⟨gb476, 2, none⟩ = some (.slice A0_2 l0_2.length c0_2) := (blk_cell BK476.out 2).trans rfl; have hfz11_0 := blk_frozen BK476.out 0; have hfz11_1 := blk_frozen BK476.out 1; have hfz11_2 := blk_frozen BK476.out 2) | ((with_reducible refine gate_callee (f := 84) rfl ?_); refine goesL_ (some 8) rfl rfl Try.func84 (by kernel_rfl) rfl #[.agg #[.slice A0_0 l0_0.length c0_0, .int .i64 a0_1, .slice A0_2 l0_2.length c0_2]] rfl (by (try simp only [List.map_toArray, List.map_cons, List.map_nil]); first | done | rfl | (simp only [List.length_drop, List.length_take]; rfl)) ?_; (with_reducible refine (flow_check.calls (fun k_ => k_ < w.heap.size) _ _ l0_0 a0_1 (fun k_ => k_ < w.heap.size) _ _ l0_2 t477 _ ?side1 ?side2 A2.out).mono ?_); (case side1 => exact Kd.V_mk HC0_0.out (Kd.F_below (Kd.C_F Kd.heap_bool HR0_0.out) (by repeat (first | (with_reducible first | exact HB.out | apply below_alloc | apply pw_below_drewN | apply below_drew1 | refine below_set ?_ GE476.out) | exact HB.out)))); (case side2 => exact Kd.V_mk HC0_2.out (Kd.F_below (Kd.C_F k36_heap HR0_2.out) (by repeat (first | (with_reducible first | exact HB.out | apply below_alloc | apply pw_below_drewN | apply below_drew1 | refine below_set ?_ GE476.out) | exact HB.out)))); rintro e w12 ⟨rfl, hb⟩; refine ⟨_, rfl, ?_⟩; have n0_ := Aside0.mk (blk_below (g := gb476) (o := .cells #[.slice A0_0 l0_0.length c0_0, .int .i64 a0_1, .slice A0_2 l0_2.length c0_2] 25 (0, 0)) (by (with_reducible repeat (first | refine blk_drewN ?_ _ | refine blk_drew ?_ | refine blk_alloc ?_ _)); exact BK476.out) hb); have n1_ := Aside0.mk (below_step (by repeat (first | (with_reducible first | exact HB.out | apply below_alloc | apply pw_below_drewN | apply below_drew1 | refine below_set ?_ GE476.out) | exact HB.out)) hb); clear BK476; clear HB; have BK476 := n0_; have HB := n1_; clear n0_ n1_; (try clear hb); (try clear hb2); (try clear hk); (try clear hi)))
    go_ret2
    exact ⟨_, by first | rfl | (simp [errW_none, errW_some] <;> rfl) | (simp [*, errW_none, errW_some] <;> rfl), by first | exact Kd.R_nil _ _ _ _ _ | exact Kd.N_nil _ _ _ _ _ | exact Kd.V_nil _ _ _ _ _ | exact Kd.Q_nil _ _ _ _ _ | exact Kd.S_nil _ _ _ _ _, by repeat (first | (with_reducible first | exact HB.out | apply below_alloc | apply pw_below_drewN | apply below_drew1 | refine below_set ?_ GE476.out) | exact HB.out)⟩
end Go.Proofs.Ytjmeignhhheckaa.Q
namespace Go.Proofs.Ytjmeignhhheckaa.Q
open Go.RowKit Go.Proofs.YtjmeignhhheckaaW.PrintWords Go.Proofs.YtjmeignhhheckaaW.PrintLast Go.Proofs.YtjmeignhhheckaaW.PrintMore
attribute [local go_sem] max2_int min2_int max_two min_two max_three min_three max_four min_four   -- for this text's walks alone
set_option linter.unusedVariables false
set_option linter.unusedSimpArgs false
def turnstileref09_Next.f (l0_0 : List (S46)) (a0_1 : Int) (a0_2 : Int) (a0_3 : Int) (a0_4 : Int) : Option (List Int) := if a0_1 = 1 then (some (([a0_3] : List Int))) else (if a0_1 = 2 then (some (([a0_3, a0_4] : List Int))) else (some ([] : List Int)))
set_option maxHeartbeats 8000000 in
set_option maxRecDepth 100000 in
theorem turnstileref09_Next.calls (A0_0 : Option Addr) (c0_0 : Nat) (l0_0 : List (S46)) (a0_1 : Int) (a0_2 : Int) (a0_3 : Int) (a0_4 : Int) (r : List Int) (w : World) (hr0_0 : Kd.C k46 w A0_0 l0_0.length l0_0) (hc0_0 : l0_0.length ≤ c0_0) (h : turnstileref09_Next.f l0_0 a0_1 a0_2 a0_3 a0_4 = some r) :
    Calls Try.prog 54 #[.agg #[.slice A0_0 l0_0.length c0_0, .int .u8 a0_1, .int .i64 a0_2, .int .i64 a0_3, .int .i64 a0_4]] w fun e w' => ∃ v0_ : Value, e = .returned (v0_) ∧ Kd.R (Kd.int .i64) 3 w' w.heap.size (fun _ => True) v0_ r ∧ Below w.heap.size w w' := by
  have hu36 := Try.underlying36
  have HR0_0 := Aside0.mk hr0_0
  have HC0_0 := Aside0.mk hc0_0
  clear hr0_0 hc0_0
  have HB := Aside0.mk (Below.refl w.heap.size w)
  have H : (if a0_1 = 1 then (some (([a0_3] : List Int))) else (if a0_1 = 2 then (some (([a0_3, a0_4] : List Int))) else (some ([] : List Int)))) = some r := h
  clear h
  by_cases c2 : a0_1 = 1
  · rw [if_pos c2] at H
    have c2b0 : (a0_1 == 1) = true := beq_iff_eq.mpr c2
    have c2b1 : (a0_1 != 1) = false := bne_eq_false_iff_eq.mpr c2
    clear c2
    obtain ⟨y333, hy333⟩ : ∃ y_ : List Int, y_ = (([a0_3] : List Int)) := ⟨_, rfl⟩
    replace H : (some y333) = some r := by first | (rw [hy333]; with_reducible exact H) | (have H2_ := (Option.bind_some _ _).symm.trans H; rw [hy333]; with_reducible exact H2_) | (have H2_ := (Option.bind_some _ _).symm.trans H; with_reducible exact H2_) | with_reducible exact H | (rw [hy333]; exact H) | exact H
    have Ny333 := Aside0.mk hy333
    clear hy333
    obtain rfl := Option.some.inj H
    go_enter Try.func54, Try.ntmps54
    go_wp2_with (first | ((with_reducible refine gate_dst (N := 1) rfl ?_); refine box_event ?hg (N := 1) ?hd (cs := #[.slice A0_0 l0_0.length c0_0, .int .u8 a0_1, .int .i64 a0_2, .int .i64 a0_3, .int .i64 a0_4]) (t := 36) ?hr ?_; (case hd => rfl); (case hg => rfl); (case hr => first | (go_simp; done) | (go_simp; rfl)); intro gb332 hg w3 hbox hb; have n0_ := Aside0.mk (below_step (by repeat (first | (with_reducible first | exact HB.out | apply below_alloc | apply pw_below_drewN | apply below_drew1) | exact HB.out)) hb); have n1_ := Aside0.mk (hbox); have n2_ := Aside0.mk ((by rw [hg]; exact (below_size (by repeat (first | (with_reducible first | exact HB.out | apply below_alloc | apply pw_below_drewN | apply below_drew1) | exact HB.out))) : w.heap.size ≤ gb332)); have n3_ := Aside0.mk ((by rw [hg]; exact (below_size (by repeat (first | (with_reducible first | exact HB.out | apply below_alloc | apply pw_below_drewN | apply below_drew1) | exact HB.out))) : w.heap.size ≤ gb332)); clear HB; have HB := n0_; have BK332 := n1_; have GW332 := n2_; have GE332 := n3_; clear n0_ n1_ n2_ n3_; clear hb hbox hg; have hcz4_0 : w3.cell? ⟨gb332, 0, none⟩ = some (.slice A0_0 l0_0.length c0_0) := (blk_cell BK332.out 0).trans rfl; have hcz4_1 : w3.cell? ⟨gb332, 1, none⟩ = some (.int .u8 a0_1) := (blk_cell BK332.out 1).trans rfl; have hcz4_2 : w3.cell? ⟨gb332, 2, none⟩ = some (.int .i64 a0_2) := (blk_cell BK332.out 2).trans rfl; have hcz4_3 : w3.cell? ⟨gb332, 3, none⟩ = some (.int .i64 a0_3) := (blk_cell BK332.out 3).trans rfl; have hcz4_4 : w3.cell? ⟨gb332, 4, none⟩ = some (.int .i64 a0_4) := (blk_cell BK332.out 4).trans rfl; have hfz4_0 := blk_frozen BK332.out 0; have hfz4_1 := blk_frozen BK332.out 1; have hfz4_2 := blk_frozen BK332.out 2; have hfz4_3 := blk_frozen BK332.out 3; have hfz4_4 := blk_frozen BK332.out 4) | ((with_reducible refine gate_dst (N := 9) rfl ?_); refine Kd.R_lit (Kd.int .i64) _ 3 ?hg (N := 9) ?hd (xs := ([a0_3] : List Int)) (inner := [.int .i64 a0_3]) (ok := fun _ => True) (okp := fun _ => True) ?hr ?hp (fun _ hk => hk) trivial (Below.refl _ _) (Nat.le_refl _) (by simp) ?_; (case hd => rfl); (case hg => rfl); (case hr => first | (go_simp; done) | (go_simp; rfl)); (case hp => exact (Reps.one (show Kd.M (Kd.int .i64) _ _ _ a0_3 [.int .i64 a0_3] from rfl) (Reps.none _ _))); intro v334 w5 ho6 hb hg_ hnew_; clear hg_ hnew_; (first | rw [← Ny333.out] at ho6 | (simp only [Int.reduceToNat] at ho6; rw [← Ny333.out] at ho6)); have n0_ := Aside0.mk (Kd.R_lower ho6 (below_size (by repeat (first | (with_reducible first | exact HB.out | apply below_alloc | apply pw_below_drewN | apply below_drew1 | refine below_set ?_ GE332.out) | exact HB.out)))); have n1_ := Aside0.mk (blk_below (g := gb332) (o := .cells #[.slice A0_0 l0_0.length c0_0, .int .u8 a0_1, .int .i64 a0_2, .int .i64 a0_3, .int .i64 a0_4] 36 (0, 0)) (by (with_reducible repeat (first | refine blk_drewN ?_ _ | refine blk_drew ?_ | refine blk_alloc ?_ _)); exact BK332.out) hb); have n2_ := Aside0.mk (below_step (by repeat (first | (with_reducible first | exact HB.out | apply below_alloc | apply pw_below_drewN | apply below_drew1 | refine below_set ?_ GE332.out) | exact HB.out)) hb); clear BK332; clear HB; have HO335 := n0_; have BK332 := n1_; have HB := n2_; clear n0_ n1_ n2_; clear hb ho6))
    go_ret
    exact ⟨_, by first | rfl | (simp [errW_none, errW_some] <;> rfl) | (simp [*, errW_none, errW_some] <;> rfl), by (with_reducible repeat (first | apply Kd.R_alloc | apply Kd.R_drewN | apply Kd.R_drew)); exact HO335.out, by repeat (first | (with_reducible first | exact HB.out | apply below_alloc | apply pw_below_drewN | apply below_drew1 | refine below_set ?_ GE332.out) | exact HB.out)⟩
  · rw [if_neg c2] at H
    have c2b0 : (a0_1 == 1) = false := beq_eq_false_iff_ne.mpr c2
    have c2b1 : (a0_1 != 1) = true := bne_iff_ne.mpr c2
    by_cases c7 : a0_1 = 2
    · rw [if_pos c7] at H
      have c7b0 : (a0_1 == 2) = true := beq_iff_eq.mpr c7
      have c7b1 : (a0_1 != 2) = false := bne_eq_false_iff_eq.mpr c7
      clear c7
      obtain ⟨y336, hy336⟩ : ∃ y_ : List Int, y_ = (([a0_3, a0_4] : List Int)) := ⟨_, rfl⟩
      replace H : (some y336) = some r := by first | (rw [hy336]; with_reducible exact H) | (have H2_ := (Option.bind_some _ _).symm.trans H; rw [hy336]; with_reducible exact H2_) | (have H2_ := (Option.bind_some _ _).symm.trans H; with_reducible exact H2_) | with_reducible exact H | (rw [hy336]; exact H) | exact H
      have Ny336 := Aside0.mk hy336
      clear hy336
      obtain rfl := Option.some.inj H
      go_enter Try.func54, Try.ntmps54
      go_wp2_with (first | ((with_reducible refine gate_dst (N := 1) rfl ?_); refine box_event ?hg (N := 1) ?hd (cs := #[.slice A0_0 l0_0.length c0_0, .int .u8 a0_1, .int .i64 a0_2, .int .i64 a0_3, .int .i64 a0_4]) (t := 36) ?hr ?_; (case hd => rfl); (case hg => rfl); (case hr => first | (go_simp; done) | (go_simp; rfl)); intro gb332 hg w8 hbox hb; have n0_ := Aside0.mk (below_step (by repeat (first | (with_reducible first | exact HB.out | apply below_alloc | apply pw_below_drewN | apply below_drew1) | exact HB.out)) hb); have n1_ := Aside0.mk (hbox); have n2_ := Aside0.mk ((by rw [hg]; exact (below_size (by repeat (first | (with_reducible first | exact HB.out | apply below_alloc | apply pw_below_drewN | apply below_drew1) | exact HB.out))) : w.heap.size ≤ gb332)); have n3_ := Aside0.mk ((by rw [hg]; exact (below_size (by repeat (first | (with_reducible first | exact HB.out | apply below_alloc | apply pw_below_drewN | apply below_drew1) | exact HB.out))) : w.heap.size ≤ gb332)); clear HB; have HB := n0_; have BK332 := n1_; have GW332 := n2_; have GE332 := n3_; clear n0_ n1_ n2_ n3_; clear hb hbox hg; have hcz9_0 : w8.cell? ⟨gb332, 0, none⟩ = some (.slice A0_0 l0_0.length c0_0) := (blk_cell BK332.out 0).trans rfl; have hcz9_1 : w8.cell? ⟨gb332, 1, none⟩ = some (.int .u8 a0_1) := (blk_cell BK332.out 1).trans rfl; have hcz9_2 : w8.cell? ⟨gb332, 2, none⟩ = some (.int .i64 a0_2) := (blk_cell BK332.out 2).trans rfl; have hcz9_3 : w8.cell? ⟨gb332, 3, none⟩ = some (.int .i64 a0_3) := (blk_cell BK332.out 3).trans rfl; have hcz9_4 : w8.cell? ⟨gb332, 4, none⟩ = some (.int .i64 a0_4) := (blk_cell BK332.out 4).trans rfl; have hfz9_0 := blk_frozen BK332.out 0; have hfz9_1 := blk_frozen BK332.out 1; have hfz9_2 := blk_frozen BK332.out 2; have hfz9_3 := blk_frozen BK332.out 3; have hfz9_4 := blk_frozen BK332.out 4) | ((with_reducible refine gate_dst (N := 16) rfl ?_); refine Kd.R_lit (Kd.int .i64) _ 3 ?hg (N := 16) ?hd (xs := ([a0_3, a0_4] : List Int)) (inner := [.int .i64 a0_3, .int .i64 a0_4]) (ok := fun _ => True) (okp := fun _ => True) ?hr ?hp (fun _ hk => hk) trivial (Below.refl _ _) (Nat.le_refl _) (by simp) ?_; (case hd => rfl); (case hg => rfl); (case hr => first | (go_simp; done) | (go_simp; rfl)); (case hp => exact (Reps.one (show Kd.M (Kd.int .i64) _ _ _ a0_3 [.int .i64 a0_3] from rfl) (Reps.one (show Kd.M (Kd.int .i64) _ _ _ a0_4 [.int .i64 a0_4] from rfl) (Reps.none _ _)))); intro v337 w10 ho11 hb hg_ hnew_; clear hg_ hnew_; (first | rw [← Ny336.out] at ho11 | (simp only [Int.reduceToNat] at ho11; rw [← Ny336.out] at ho11)); have n0_ := Aside0.mk (Kd.R_lower ho11 (below_size (by repeat (first | (with_reducible first | exact HB.out | apply below_alloc | apply pw_below_drewN | apply below_drew1 | refine below_set ?_ GE332.out) | exact HB.out)))); have n1_ := Aside0.mk (blk_below (g := gb332) (o := .cells #[.slice A0_0 l0_0.length c0_0, .int .u8 a0_1, .int .i64 a0_2, .int .i64 a0_3, .int .i64 a0_4] 36 (0, 0)) (by (with_reducible repeat (first | refine blk_drewN ?_ _ | refine blk_drew ?_ | refine blk_alloc ?_ _)); exact BK332.out) hb); have n2_ := Aside0.mk (below_step (by repeat (first | (with_reducible first | exact HB.out | apply below_alloc | apply pw_below_drewN | apply below_drew1 | refine below_set ?_ GE332.out) | exact HB.out)) hb); clear BK332; clear HB; have HO338 := n0_; have BK332 := n1_; have HB := n2_; clear n0_ n1_ n2_; clear hb ho11))
      go_ret
      exact ⟨_, by first | rfl | (simp [errW_none, errW_some] <;> rfl) | (simp [*, errW_none, errW_some] <;> rfl), by (with_reducible repeat (first | apply Kd.R_alloc | apply Kd.R_drewN | apply Kd.R_drew)); exact HO338.out, by repeat (first | (with_reducible first | exact HB.out | apply below_alloc | apply pw_below_drewN | apply below_drew1 | refine below_set ?_ GE332.out) | exact HB.out)⟩
    · rw [if_neg c7] at H
      have c7b0 : (a0_1 == 2) = false := beq_eq_false_iff_ne.mpr c7
      have c7b1 : (a0_1 != 2) = true := bne_iff_ne.mpr c7
      obtain rfl := Option.some.inj H
      go_enter Try.func54, Try.ntmps54
      go_wp2_with (first | ((with_reducible refine gate_dst (N := 1) rfl ?_); refine box_event ?hg (N := 1) ?hd (cs := #[.slice A0_0 l0_0.length c0_0, .int .u8 a0_1, .int .i64 a0_2, .int .i64 a0_3, .int .i64 a0_4]) (t := 36) ?hr ?_; (case hd => rfl); (case hg => rfl); (case hr => first | (go_simp; done) | (go_simp; rfl)); intro gb332 hg w12 hbox hb; have n0_ := Aside0.mk (below_step (by repeat (first | (with_reducible first | exact HB.out | apply below_alloc | apply pw_below_drewN | apply below_drew1) | exact HB.out)) hb); have n1_ := Aside0.mk (hbox); have n2_ := Aside0.mk ((by rw [hg]; exact (below_size (by repeat (first | (with_reducible first | exact HB.out | apply below_alloc | apply pw_below_drewN | apply below_drew1) | exact HB.out))) : w.heap.size ≤ gb332)); have n3_ := Aside0.mk ((by rw [hg]; exact (below_size (by repeat (first | (with_reducible first | exact HB.out | apply below_alloc | apply pw_below_drewN | apply below_drew1) | exact HB.out))) : w.heap.size ≤ gb332)); clear HB; have HB := n0_; have BK332 := n1_; have GW332 := n2_; have GE332 := n3_; clear n0_ n1_ n2_ n3_; clear hb hbox hg; have hcz13_0 : w12.cell? ⟨gb332, 0, none⟩ = some (.slice A0_0 l0_0.length c0_0) := (blk_cell BK332.out 0).trans rfl; have hcz13_1 : w12.cell? ⟨gb332, 1, none⟩ = some (.int .u8 a0_1) := (blk_cell BK332.out 1).trans rfl; have hcz13_2 : w12.cell? ⟨gb332, 2, none⟩ = some (.int .i64 a0_2) := (blk_cell BK332.out 2).trans rfl; have hcz13_3 : w12.cell? ⟨gb332, 3, none⟩ = some (.int .i64 a0_3) := (blk_cell BK332.out 3).trans rfl; have hcz13_4 : w12.cell? ⟨gb332, 4, none⟩ = some (.int .i64 a0_4) := (blk_cell BK332.out 4).trans rfl; have hfz13_0 := blk_frozen BK332.out 0; have hfz13_1 := blk_frozen BK332.out 1; have hfz13_2 := blk_frozen BK332.out 2; have hfz13_3 := blk_frozen BK332.out 3; have hfz13_4 := blk_frozen BK332.out 4))
      go_ret
      exact ⟨_, by first | rfl | (simp [errW_none, errW_some] <;> rfl) | (simp [*, errW_none, errW_some] <;> rfl), by first | exact Kd.R_nil _ _ _ _ _ | exact Kd.N_nil _ _ _ _ _ | exact Kd.V_nil _ _ _ _ _ | exact Kd.Q_nil _ _ _ _ _ | exact Kd.S_nil _ _ _ _ _, by repeat (first | (with_reducible first | exact HB.out | apply below_alloc | apply pw_below_drewN | apply below_drew1 | refine below_set ?_ GE332.out) | exact HB.out)⟩
end Go.Proofs.Ytjmeignhhheckaa.Q
namespace Go.Proofs.Ytjmeignhhheckaa.Q
open Go.RowKit Go.Proofs.YtjmeignhhheckaaW.PrintWords Go.Proofs.YtjmeignhhheckaaW.PrintLast Go.Proofs.YtjmeignhhheckaaW.PrintMore
attribute [local go_sem] max2_int min2_int max_two min_two max_three min_three max_four min_four   -- for this text's walks alone
set_option linter.unusedVariables false
set_option linter.unusedSimpArgs false
mutual
def turnstilelaw12_FlowWays.j0 : Nat → List Int → List Bool → List (List Int) → List Int → List Bool → Bool → List Bool → Int → List (S36) → Option (Bool)
  | 0, _, _, _, _, _, _, _, _, _ => none
  | k + 1, x1, x5, x7, x9, x11, x73, x340000, x340001, x340002 => if x73 = true then (some false) else (if 0 ≤ (x340002.length : Int) then (if ((x340002.length : Int) : Int).toNat ≤ 281474976710656 then (turnstilelaw12_FlowWays.l0 k x1 x5 x7 x9 x11 (List.replicate ((x340002.length : Int) : Int).toNat false) 0 false 0 x340000 x340001 x340002) else (none)) else (none))
def turnstilelaw12_FlowWays.l0 : Nat → List Int → List Bool → List (List Int) → List Int → List Bool → List Bool → Int → Bool → Int → List Bool → Int → List (S36) → Option (Bool)
  | 0, _, _, _, _, _, _, _, _, _, _, _, _ => none
  | k + 1, x1, x5, x7, x9, x11, x13, x14, x15, x16, x340000, x340001, x340002 => if 0 ≤ x14 then (if x14 < (x13.length : Int) then ((some (x13.set (x14 : Int).toNat true : List Bool)).bind fun y365 => (if x14 < (x5.length : Int) then (if rdOf false x5 x14 = true then (if x14 < (x11.length : Int) then (if ((rdOf false x11 x14) != x15) = true then (turnstilelaw12_FlowWays.j2 k x1 x5 x7 x9 x11 y365 x14 x15 x16 true x340000 x340001 x340002) else (if x14 < (x9.length : Int) then (if (rd x9 x14) ≥ 0 then (if 0 ≤ (rd x9 x14) then (if (rd x9 x14) < (x13.length : Int) then (turnstilelaw12_FlowWays.j2 k x1 x5 x7 x9 x11 y365 x14 x15 x16 (!(rdOf false y365 (rd x9 x14))) x340000 x340001 x340002) else (none)) else (none)) else (turnstilelaw12_FlowWays.j2 k x1 x5 x7 x9 x11 y365 x14 x15 x16 false x340000 x340001 x340002)) else (none))) else (none)) else (turnstilelaw12_FlowWays.j2 k x1 x5 x7 x9 x11 y365 x14 x15 x16 true x340000 x340001 x340002)) else (none))) else (none)) else (none)
def turnstilelaw12_FlowWays.j2 : Nat → List Int → List Bool → List (List Int) → List Int → List Bool → List Bool → Int → Bool → Int → Bool → List Bool → Int → List (S36) → Option (Bool)
  | 0, _, _, _, _, _, _, _, _, _, _, _, _, _ => none
  | k + 1, x1, x5, x7, x9, x11, x13, x14, x15, x16, x112, x340000, x340001, x340002 => if x112 = true then (some false) else (turnstilelaw12_FlowWays.l1 k x1 x5 x7 x9 x11 x13 x14 x15 x16 0 x340000 x340001 x340002)
def turnstilelaw12_FlowWays.l1 : Nat → List Int → List Bool → List (List Int) → List Int → List Bool → List Bool → Int → Bool → Int → Int → List Bool → Int → List (S36) → Option (Bool)
  | 0, _, _, _, _, _, _, _, _, _, _, _, _, _ => none
  | k + 1, x1, x5, x7, x9, x11, x13, x14, x15, x16, x17, x340000, x340001, x340002 => if 0 ≤ x14 then (if x14 < (x340002.length : Int) then (if x17 < (((rd_T36 x340002 x14).f0).length : Int) then (if 0 ≤ x17 then (if ((rd_T46 ((rd_T36 x340002 x14).f0) x17).f0) = 13 then (turnstilelaw12_FlowWays.l1 k x1 x5 x7 x9 x11 x13 x14 (((rd_T46 ((rd_T36 x340002 x14).f0) x17).f0) == 13) x16 (wrap64 (x17 + 1)) x340000 x340001 x340002) else (if ((rd_T46 ((rd_T36 x340002 x14).f0) x17).f0) = 14 then (turnstilelaw12_FlowWays.l1 k x1 x5 x7 x9 x11 x13 x14 (((rd_T46 ((rd_T36 x340002 x14).f0) x17).f0) == 13) x16 (wrap64 (x17 + 1)) x340000 x340001 x340002) else (turnstilelaw12_FlowWays.l1 k x1 x5 x7 x9 x11 x13 x14 x15 x16 (wrap64 (x17 + 1)) x340000 x340001 x340002))) else (none)) else ((turnstileref09_Next.f ((rd_T36 x340002 x14).f0) ((rd_T36 x340002 x14).f1) ((rd_T36 x340002 x14).f2) ((rd_T36 x340002 x14).f3) ((rd_T36 x340002 x14).f4)).bind fun t381 => (if x16 ≥ (x1.length : Int) then (turnstilelaw12_FlowWays.j4 k x1 x5 x7 x9 x11 x13 x14 x15 x16 t381 true x340000 x340001 x340002) else (turnstilelaw12_FlowWays.j4 k x1 x5 x7 x9 x11 x13 x14 x15 x16 t381 ((t381.length : Int) == 0) x340000 x340001 x340002)))) else (none)) else (none)
def turnstilelaw12_FlowWays.j4 : Nat → List Int → List Bool → List (List Int) → List Int → List Bool → List Bool → Int → Bool → Int → List Int → Bool → List Bool → Int → List (S36) → Option (Bool)
  | 0, _, _, _, _, _, _, _, _, _, _, _, _, _, _ => none
  | k + 1, x1, x5, x7, x9, x11, x13, x14, x15, x16, x18, x173, x340000, x340001, x340002 => if x173 = true then ((turnstilelaw12_alive.f k).bind fun t384 => (some t384)) else (if 0 < (x18.length : Int) then (if 0 ≤ x16 then (if x16 < (x1.length : Int) then (if (Int.tmod (rd x1 x16) 2) = 0 then (turnstilelaw12_FlowWays.j5 k x1 x5 x7 x9 x11 x13 x14 x15 x16 x18 (rd x18 0) false x340000 x340001 x340002) else (turnstilelaw12_FlowWays.j5 k x1 x5 x7 x9 x11 x13 x14 x15 x16 x18 (rd x18 0) (decide ((x18.length : Int) > 1)) x340000 x340001 x340002)) else (none)) else (none)) else (none))
def turnstilelaw12_FlowWays.j5 : Nat → List Int → List Bool → List (List Int) → List Int → List Bool → List Bool → Int → Bool → Int → List Int → Int → Bool → List Bool → Int → List (S36) → Option (Bool)
  | 0, _, _, _, _, _, _, _, _, _, _, _, _, _, _, _ => none
  | k + 1, x1, x5, x7, x9, x11, x13, x14, x15, x16, x18, x19, x188, x340000, x340001, x340002 => if x188 = true then (if 1 < (x18.length : Int) then (turnstilelaw12_FlowWays.j6 k x1 x5 x7 x9 x11 x13 x14 x15 x16 (rd x18 1) x340000 x340001 x340002) else (none)) else (turnstilelaw12_FlowWays.j6 k x1 x5 x7 x9 x11 x13 x14 x15 x16 x19 x340000 x340001 x340002)
def turnstilelaw12_FlowWays.j6 : Nat → List Int → List Bool → List (List Int) → List Int → List Bool → List Bool → Int → Bool → Int → Int → List Bool → Int → List (S36) → Option (Bool)
  | 0, _, _, _, _, _, _, _, _, _, _, _, _, _ => none
  | k + 1, x1, x5, x7, x9, x11, x13, x14, x15, x16, x19, x340000, x340001, x340002 => turnstilelaw12_FlowWays.l2 k x1 x5 x7 x9 x11 x13 x14 x15 x16 x19 false 0 x340000 x340001 x340002
def turnstilelaw12_FlowWays.l2 : Nat → List Int → List Bool → List (List Int) → List Int → List Bool → List Bool → Int → Bool → Int → Int → Bool → Int → List Bool → Int → List (S36) → Option (Bool)
  | 0, _, _, _, _, _, _, _, _, _, _, _, _, _, _, _ => none
  | k + 1, x1, x5, x7, x9, x11, x13, x14, x15, x16, x19, x20, x21, x340000, x340001, x340002 => if 0 ≤ x19 then (if x19 < (x7.length : Int) then (if x21 < ((rd_L13 x7 x19).length : Int) then (if x20 = true then (turnstilelaw12_FlowWays.l2 k x1 x5 x7 x9 x11 x13 x14 x15 x16 x19 true (wrap64 (x21 + 1)) x340000 x340001 x340002) else (if 0 ≤ x21 then (turnstilelaw12_FlowWays.l2 k x1 x5 x7 x9 x11 x13 x14 x15 x16 x19 ((rd (rd_L13 x7 x19) x21) == x14) (wrap64 (x21 + 1)) x340000 x340001 x340002) else (none))) else (if x20 = true then (turnstilelaw12_FlowWays.l0 k x1 x5 x7 x9 x11 x13 x19 x15 (wrap64 (x16 + 1)) x340000 x340001 x340002) else (some false))) else (none)) else (none)
end
def turnstilelaw12_FlowWays.f (k : Nat) (l0_0 : List Bool) (a0_1 : Int) (l0_2 : List (S36)) (l1 : List Int) : Option (Bool) := (turnstilelaw01_GraphSize.f k l0_0 a0_1 l0_2).bind fun t340 => ((turnstilelaw01_Beyond.f k (([t340] : List Int))).bind fun t344 => (if t344 = true then (some true) else ((flow_Reach.f k l0_0 a0_1 l0_2).bind fun bt345 => ((flow_Ahead.f l0_0 a0_1 l0_2).bind fun bt349 => ((flow_Dom.f l0_0 a0_1 l0_2).bind fun bt353 => ((flow_Inside.f l0_0 a0_1 l0_2).bind fun bt357 => (if bt345.2 = 0 then (if (bt345.1.length : Int) = (l0_2.length : Int) then (if (bt357.1.length : Int) = (bt345.1.length : Int) then (if (bt353.1.length : Int) = (bt345.1.length : Int) then (turnstilelaw12_FlowWays.j0 k l1 bt345.1 bt349.1 bt353.1 bt357.1 ((bt345.1.length : Int) == 0) l0_0 a0_1 l0_2) else (turnstilelaw12_FlowWays.j0 k l1 bt345.1 bt349.1 bt353.1 bt357.1 true l0_0 a0_1 l0_2)) else (turnstilelaw12_FlowWays.j0 k l1 bt345.1 bt349.1 bt353.1 bt357.1 true l0_0 a0_1 l0_2)) else (turnstilelaw12_FlowWays.j0 k l1 bt345.1 bt349.1 bt353.1 bt357.1 true l0_0 a0_1 l0_2)) else ((turnstilelaw12_alive.f k).bind fun t361 => (some t361)))))))))
theorem turnstilelaw12_FlowWays.mono_l : ∀ k, (∀ y0 y1 y2 y3 y4 y5 y6 y7 y8, LeO (turnstilelaw12_FlowWays.j0 k y0 y1 y2 y3 y4 y5 y6 y7 y8) (turnstilelaw12_FlowWays.j0 (k + 1) y0 y1 y2 y3 y4 y5 y6 y7 y8)) ∧ (∀ y0 y1 y2 y3 y4 y5 y6 y7 y8 y9 y10 y11, LeO (turnstilelaw12_FlowWays.l0 k y0 y1 y2 y3 y4 y5 y6 y7 y8 y9 y10 y11) (turnstilelaw12_FlowWays.l0 (k + 1) y0 y1 y2 y3 y4 y5 y6 y7 y8 y9 y10 y11)) ∧ (∀ y0 y1 y2 y3 y4 y5 y6 y7 y8 y9 y10 y11 y12, LeO (turnstilelaw12_FlowWays.j2 k y0 y1 y2 y3 y4 y5 y6 y7 y8 y9 y10 y11 y12) (turnstilelaw12_FlowWays.j2 (k + 1) y0 y1 y2 y3 y4 y5 y6 y7 y8 y9 y10 y11 y12)) ∧ (∀ y0 y1 y2 y3 y4 y5 y6 y7 y8 y9 y10 y11 y12, LeO (turnstilelaw12_FlowWays.l1 k y0 y1 y2 y3 y4 y5 y6 y7 y8 y9 y10 y11 y12) (turnstilelaw12_FlowWays.l1 (k + 1) y0 y1 y2 y3 y4 y5 y6 y7 y8 y9 y10 y11 y12)) ∧ (∀ y0 y1 y2 y3 y4 y5 y6 y7 y8 y9 y10 y11 y12 y13, LeO (turnstilelaw12_FlowWays.j4 k y0 y1 y2 y3 y4 y5 y6 y7 y8 y9 y10 y11 y12 y13) (turnstilelaw12_FlowWays.j4 (k + 1) y0 y1 y2 y3 y4 y5 y6 y7 y8 y9 y10 y11 y12 y13)) ∧ (∀ y0 y1 y2 y3 y4 y5 y6 y7 y8 y9 y10 y11 y12 y13 y14, LeO (turnstilelaw12_FlowWays.j5 k y0 y1 y2 y3 y4 y5 y6 y7 y8 y9 y10 y11 y12 y13 y14) (turnstilelaw12_FlowWays.j5 (k + 1) y0 y1 y2 y3 y4 y5 y6 y7 y8 y9 y10 y11 y12 y13 y14)) ∧ (∀ y0 y1 y2 y3 y4 y5 y6 y7 y8 y9 y10 y11 y12, LeO (turnstilelaw12_FlowWays.j6 k y0 y1 y2 y3 y4 y5 y6 y7 y8 y9 y10 y11 y12) (turnstilelaw12_FlowWays.j6 (k + 1) y0 y1 y2 y3 y4 y5 y6 y7 y8 y9 y10 y11 y12)) ∧ (∀ y0 y1 y2 y3 y4 y5 y6 y7 y8 y9 y10 y11 y12 y13 y14, LeO (turnstilelaw12_FlowWays.l2 k y0 y1 y2 y3 y4 y5 y6 y7 y8 y9 y10 y11 y12 y13 y14) (turnstilelaw12_FlowWays.l2 (k + 1) y0 y1 y2 y3 y4 y5 y6 y7 y8 y9 y10 y11 y12 y13 y14))
  | 0 => ⟨fun _ _ _ _ _ _ _ _ _ r h => by simp [turnstilelaw12_FlowWays.j0] at h, fun _ _ _ _ _ _ _ _ _ _ _ _ r h => by simp [turnstilelaw12_FlowWays.l0] at h, fun _ _ _ _ _ _ _ _ _ _ _ _ _ r h => by simp [turnstilelaw12_FlowWays.j2] at h, fun _ _ _ _ _ _ _ _ _ _ _ _ _ r h => by simp [turnstilelaw12_FlowWays.l1] at h, fun _ _ _ _ _ _ _ _ _ _ _ _ _ _ r h => by simp [turnstilelaw12_FlowWays.j4] at h, fun _ _ _ _ _ _ _ _ _ _ _ _ _ _ _ r h => by simp [turnstilelaw12_FlowWays.j5] at h, fun _ _ _ _ _ _ _ _ _ _ _ _ _ r h => by simp [turnstilelaw12_FlowWays.j6] at h, fun _ _ _ _ _ _ _ _ _ _ _ _ _ _ _ r h => by simp [turnstilelaw12_FlowWays.l2] at h⟩
  | k + 1 => by
    obtain ⟨ih0, ih1, ih2, ih3, ih4, ih5, ih6, ih7⟩ := turnstilelaw12_FlowWays.mono_l k
    refine ⟨?_, ?_, ?_, ?_, ?_, ?_, ?_, ?_⟩
    · intro y0 y1 y2 y3 y4 y5 y6 y7 y8
      unfold turnstilelaw12_FlowWays.j0
      repeat' first
      | (with_reducible exact ih0 _ _ _ _ _ _ _ _ _)
      | (with_reducible exact ih1 _ _ _ _ _ _ _ _ _ _ _ _)
      | (with_reducible exact ih2 _ _ _ _ _ _ _ _ _ _ _ _ _)
      | (with_reducible exact ih3 _ _ _ _ _ _ _ _ _ _ _ _ _)
      | (with_reducible exact ih4 _ _ _ _ _ _ _ _ _ _ _ _ _ _)
      | (with_reducible exact ih5 _ _ _ _ _ _ _ _ _ _ _ _ _ _ _)
      | (with_reducible exact ih6 _ _ _ _ _ _ _ _ _ _ _ _ _)
      | (with_reducible exact ih7 _ _ _ _ _ _ _ _ _ _ _ _ _ _ _)
      | (with_reducible exact flow_Reach.mono _ _ _ _)
      | (with_reducible exact turnstilelaw01_Beyond.mono _ _)
      | (with_reducible exact turnstilelaw01_GraphSize.mono _ _ _ _)
      | (with_reducible exact turnstilelaw12_alive.mono _)
      | (with_reducible exact LeO.refl _)
      | (with_reducible exact LeO.none _)
      | (with_reducible refine LeO.ite ?_ ?_)
      | (with_reducible refine LeO.bind ?_ (fun _ => ?_))
      | exact ih0 _ _ _ _ _ _ _ _ _
      | exact ih1 _ _ _ _ _ _ _ _ _ _ _ _
      | exact ih2 _ _ _ _ _ _ _ _ _ _ _ _ _
      | exact ih3 _ _ _ _ _ _ _ _ _ _ _ _ _
      | exact ih4 _ _ _ _ _ _ _ _ _ _ _ _ _ _
      | exact ih5 _ _ _ _ _ _ _ _ _ _ _ _ _ _ _
      | exact ih6 _ _ _ _ _ _ _ _ _ _ _ _ _
      | exact ih7 _ _ _ _ _ _ _ _ _ _ _ _ _ _ _
      | exact flow_Reach.mono _ _ _ _
      | exact turnstilelaw01_Beyond.mono _ _
      | exact turnstilelaw01_GraphSize.mono _ _ _ _
      | exact turnstilelaw12_alive.mono _
      | exact LeO.none _
      | refine LeO.ite ?_ ?_
      | refine LeO.bind ?_ (fun _ => ?_)
    · intro y0 y1 y2 y3 y4 y5 y6 y7 y8 y9 y10 y11
      unfold turnstilelaw12_FlowWays.l0
      repeat' first
      | (with_reducible exact ih0 _ _ _ _ _ _ _ _ _)
      | (with_reducible exact ih1 _ _ _ _ _ _ _ _ _ _ _ _)
      | (with_reducible exact ih2 _ _ _ _ _ _ _ _ _ _ _ _ _)
      | (with_reducible exact ih3 _ _ _ _ _ _ _ _ _ _ _ _ _)
      | (with_reducible exact ih4 _ _ _ _ _ _ _ _ _ _ _ _ _ _)
      | (with_reducible exact ih5 _ _ _ _ _ _ _ _ _ _ _ _ _ _ _)
      | (with_reducible exact ih6 _ _ _ _ _ _ _ _ _ _ _ _ _)
      | (with_reducible exact ih7 _ _ _ _ _ _ _ _ _ _ _ _ _ _ _)
      | (with_reducible exact flow_Reach.mono _ _ _ _)
      | (with_reducible exact turnstilelaw01_Beyond.mono _ _)
      | (with_reducible exact turnstilelaw01_GraphSize.mono _ _ _ _)
      | (with_reducible exact turnstilelaw12_alive.mono _)
      | (with_reducible exact LeO.refl _)
      | (with_reducible exact LeO.none _)
      | (with_reducible refine LeO.ite ?_ ?_)
      | (with_reducible refine LeO.bind ?_ (fun _ => ?_))
      | exact ih0 _ _ _ _ _ _ _ _ _
      | exact ih1 _ _ _ _ _ _ _ _ _ _ _ _
      | exact ih2 _ _ _ _ _ _ _ _ _ _ _ _ _
      | exact ih3 _ _ _ _ _ _ _ _ _ _ _ _ _
      | exact ih4 _ _ _ _ _ _ _ _ _ _ _ _ _ _
      | exact ih5 _ _ _ _ _ _ _ _ _ _ _ _ _ _ _
      | exact ih6 _ _ _ _ _ _ _ _ _ _ _ _ _
      | exact ih7 _ _ _ _ _ _ _ _ _ _ _ _ _ _ _
      | exact flow_Reach.mono _ _ _ _
      | exact turnstilelaw01_Beyond.mono _ _
      | exact turnstilelaw01_GraphSize.mono _ _ _ _
      | exact turnstilelaw12_alive.mono _
      | exact LeO.none _
      | refine LeO.ite ?_ ?_
      | refine LeO.bind ?_ (fun _ => ?_)
    · intro y0 y1 y2 y3 y4 y5 y6 y7 y8 y9 y10 y11 y12
      unfold turnstilelaw12_FlowWays.j2
      repeat' first
      | (with_reducible exact ih0 _ _ _ _ _ _ _ _ _)
      | (with_reducible exact ih1 _ _ _ _ _ _ _ _ _ _ _ _)
      | (with_reducible exact ih2 _ _ _ _ _ _ _ _ _ _ _ _ _)
      | (with_reducible exact ih3 _ _ _ _ _ _ _ _ _ _ _ _ _)
      | (with_reducible exact ih4 _ _ _ _ _ _ _ _ _ _ _ _ _ _)
      | (with_reducible exact ih5 _ _ _ _ _ _ _ _ _ _ _ _ _ _ _)
      | (with_reducible exact ih6 _ _ _ _ _ _ _ _ _ _ _ _ _)
      | (with_reducible exact ih7 _ _ _ _ _ _ _ _ _ _ _ _ _ _ _)
      | (with_reducible exact flow_Reach.mono _ _ _ _)
      | (with_reducible exact turnstilelaw01_Beyond.mono _ _)
      | (with_reducible exact turnstilelaw01_GraphSize.mono _ _ _ _)
      | (with_reducible exact turnstilelaw12_alive.mono _)
      | (with_reducible exact LeO.refl _)
      | (with_reducible exact LeO.none _)
      | (with_reducible refine LeO.ite ?_ ?_)
      | (with_reducible refine LeO.bind ?_ (fun _ => ?_))
      | exact ih0 _ _ _ _ _ _ _ _ _
      | exact ih1 _ _ _ _ _ _ _ _ _ _ _ _
      | exact ih2 _ _ _ _ _ _ _ _ _ _ _ _ _
      | exact ih3 _ _ _ _ _ _ _ _ _ _ _ _ _
      | exact ih4 _ _ _ _ _ _ _ _ _ _ _ _ _ _
      | exact ih5 _ _ _ _ _ _ _ _ _ _ _ _ _ _ _
      | exact ih6 _ _ _ _ _ _ _ _ _ _ _ _ _
      | exact ih7 _ _ _ _ _ _ _ _ _ _ _ _ _ _ _
      | exact flow_Reach.mono _ _ _ _
      | exact turnstilelaw01_Beyond.mono _ _
      | exact turnstilelaw01_GraphSize.mono _ _ _ _
      | exact turnstilelaw12_alive.mono _
      | exact LeO.none _
      | refine LeO.ite ?_ ?_
      | refine LeO.bind ?_ (fun _ => ?_)
    · intro y0 y1 y2 y3 y4 y5 y6 y7 y8 y9 y10 y11 y12
      unfold turnstilelaw12_FlowWays.l1
      repeat' first
      | (with_reducible exact ih0 _ _ _ _ _ _ _ _ _)
      | (with_reducible exact ih1 _ _ _ _ _ _ _ _ _ _ _ _)
      | (with_reducible exact ih2 _ _ _ _ _ _ _ _ _ _ _ _ _)
      | (with_reducible exact ih3 _ _ _ _ _ _ _ _ _ _ _ _ _)
      | (with_reducible exact ih4 _ _ _ _ _ _ _ _ _ _ _ _ _ _)
      | (with_reducible exact ih5 _ _ _ _ _ _ _ _ _ _ _ _ _ _ _)
      | (with_reducible exact ih6 _ _ _ _ _ _ _ _ _ _ _ _ _)
      | (with_reducible exact ih7 _ _ _ _ _ _ _ _ _ _ _ _ _ _ _)
      | (with_reducible exact flow_Reach.mono _ _ _ _)
      | (with_reducible exact turnstilelaw01_Beyond.mono _ _)
      | (with_reducible exact turnstilelaw01_GraphSize.mono _ _ _ _)
      | (with_reducible exact turnstilelaw12_alive.mono _)
      | (with_reducible exact LeO.refl _)
      | (with_reducible exact LeO.none _)
      | (with_reducible refine LeO.ite ?_ ?_)
      | (with_reducible refine LeO.bind ?_ (fun _ => ?_))
      | exact ih0 _ _ _ _ _ _ _ _ _
      | exact ih1 _ _ _ _ _ _ _ _ _ _ _ _
      | exact ih2 _ _ _ _ _ _ _ _ _ _ _ _ _
      | exact ih3 _ _ _ _ _ _ _ _ _ _ _ _ _
      | exact ih4 _ _ _ _ _ _ _ _ _ _ _ _ _ _
      | exact ih5 _ _ _ _ _ _ _ _ _ _ _ _ _ _ _
      | exact ih6 _ _ _ _ _ _ _ _ _ _ _ _ _
      | exact ih7 _ _ _ _ _ _ _ _ _ _ _ _ _ _ _
      | exact flow_Reach.mono _ _ _ _
      | exact turnstilelaw01_Beyond.mono _ _
      | exact turnstilelaw01_GraphSize.mono _ _ _ _
      | exact turnstilelaw12_alive.mono _
      | exact LeO.none _
      | refine LeO.ite ?_ ?_
      | refine LeO.bind ?_ (fun _ => ?_)
    · intro y0 y1 y2 y3 y4 y5 y6 y7 y8 y9 y10 y11 y12 y13
      unfold turnstilelaw12_FlowWays.j4
      repeat' first
      | (with_reducible exact ih0 _ _ _ _ _ _ _ _ _)
      | (with_reducible exact ih1 _ _ _ _ _ _ _ _ _ _ _ _)
      | (with_reducible exact ih2 _ _ _ _ _ _ _ _ _ _ _ _ _)
      | (with_reducible exact ih3 _ _ _ _ _ _ _ _ _ _ _ _ _)
      | (with_reducible exact ih4 _ _ _ _ _ _ _ _ _ _ _ _ _ _)
      | (with_reducible exact ih5 _ _ _ _ _ _ _ _ _ _ _ _ _ _ _)
      | (with_reducible exact ih6 _ _ _ _ _ _ _ _ _ _ _ _ _)
      | (with_reducible exact ih7 _ _ _ _ _ _ _ _ _ _ _ _ _ _ _)
      | (with_reducible exact flow_Reach.mono _ _ _ _)
      | (with_reducible exact turnstilelaw01_Beyond.mono _ _)
      | (with_reducible exact turnstilelaw01_GraphSize.mono _ _ _ _)
      | (with_reducible exact turnstilelaw12_alive.mono _)
      | (with_reducible exact LeO.refl _)
      | (with_reducible exact LeO.none _)
      | (with_reducible refine LeO.ite ?_ ?_)
      | (with_reducible refine LeO.bind ?_ (fun _ => ?_))
      | exact ih0 _ _ _ _ _ _ _ _ _
      | exact ih1 _ _ _ _ _ _ _ _ _ _ _ _
      | exact ih2 _ _ _ _ _ _ _ _ _ _ _ _ _
      | exact ih3 _ _ _ _ _ _ _ _ _ _ _ _ _
      | exact ih4 _ _ _ _ _ _ _ _ _ _ _ _ _ _
      | exact ih5 _ _ _ _ _ _ _ _ _ _ _ _ _ _ _
      | exact ih6 _ _ _ _ _ _ _ _ _ _ _ _ _
      | exact ih7 _ _ _ _ _ _ _ _ _ _ _ _ _ _ _
      | exact flow_Reach.mono _ _ _ _
      | exact turnstilelaw01_Beyond.mono _ _
      | exact turnstilelaw01_GraphSize.mono _ _ _ _
      | exact turnstilelaw12_alive.mono _
      | exact LeO.none _
      | refine LeO.ite ?_ ?_
      | refine LeO.bind ?_ (fun _ => ?_)
    · intro y0 y1 y2 y3 y4 y5 y6 y7 y8 y9 y10 y11 y12 y13 y14
      unfold turnstilelaw12_FlowWays.j5
      repeat' first
      | (with_reducible exact ih0 _ _ _ _ _ _ _ _ _)
      | (with_reducible exact ih1 _ _ _ _ _ _ _ _ _ _ _ _)
      | (with_reducible exact ih2 _ _ _ _ _ _ _ _ _ _ _ _ _)
      | (with_reducible exact ih3 _ _ _ _ _ _ _ _ _ _ _ _ _)
      | (with_reducible exact ih4 _ _ _ _ _ _ _ _ _ _ _ _ _ _)
      | (with_reducible exact ih5 _ _ _ _ _ _ _ _ _ _ _ _ _ _ _)
      | (with_reducible exact ih6 _ _ _ _ _ _ _ _ _ _ _ _ _)
      | (with_reducible exact ih7 _ _ _ _ _ _ _ _ _ _ _ _ _ _ _)
      | (with_reducible exact flow_Reach.mono _ _ _ _)
      | (with_reducible exact turnstilelaw01_Beyond.mono _ _)
      | (with_reducible exact turnstilelaw01_GraphSize.mono _ _ _ _)
      | (with_reducible exact turnstilelaw12_alive.mono _)
      | (with_reducible exact LeO.refl _)
      | (with_reducible exact LeO.none _)
      | (with_reducible refine LeO.ite ?_ ?_)
      | (with_reducible refine LeO.bind ?_ (fun _ => ?_))
      | exact ih0 _ _ _ _ _ _ _ _ _
      | exact ih1 _ _ _ _ _ _ _ _ _ _ _ _
      | exact ih2 _ _ _ _ _ _ _ _ _ _ _ _ _
      | exact ih3 _ _ _ _ _ _ _ _ _ _ _ _ _
      | exact ih4 _ _ _ _ _ _ _ _ _ _ _ _ _ _
      | exact ih5 _ _ _ _ _ _ _ _ _ _ _ _ _ _ _
      | exact ih6 _ _ _ _ _ _ _ _ _ _ _ _ _
      | exact ih7 _ _ _ _ _ _ _ _ _ _ _ _ _ _ _
      | exact flow_Reach.mono _ _ _ _
      | exact turnstilelaw01_Beyond.mono _ _
      | exact turnstilelaw01_GraphSize.mono _ _ _ _
      | exact turnstilelaw12_alive.mono _
      | exact LeO.none _
      | refine LeO.ite ?_ ?_
      | refine LeO.bind ?_ (fun _ => ?_)
    · intro y0 y1 y2 y3 y4 y5 y6 y7 y8 y9 y10 y11 y12
      unfold turnstilelaw12_FlowWays.j6
      repeat' first
      | (with_reducible exact ih0 _ _ _ _ _ _ _ _ _)
      | (with_reducible exact ih1 _ _ _ _ _ _ _ _ _ _ _ _)
      | (with_reducible exact ih2 _ _ _ _ _ _ _ _ _ _ _ _ _)
      | (with_reducible exact ih3 _ _ _ _ _ _ _ _ _ _ _ _ _)
      | (with_reducible exact ih4 _ _ _ _ _ _ _ _ _ _ _ _ _ _)
      | (with_reducible exact ih5 _ _ _ _ _ _ _ _ _ _ _ _ _ _ _)
      | (with_reducible exact ih6 _ _ _ _ _ _ _ _ _ _ _ _ _)
      | (with_reducible exact ih7 _ _ _ _ _ _ _ _ _ _ _ _ _ _ _)
      | (with_reducible exact flow_Reach.mono _ _ _ _)
      | (with_reducible exact turnstilelaw01_Beyond.mono _ _)
      | (with_reducible exact turnstilelaw01_GraphSize.mono _ _ _ _)
      | (with_reducible exact turnstilelaw12_alive.mono _)
      | (with_reducible exact LeO.refl _)
      | (with_reducible exact LeO.none _)
      | (with_reducible refine LeO.ite ?_ ?_)
      | (with_reducible refine LeO.bind ?_ (fun _ => ?_))
      | exact ih0 _ _ _ _ _ _ _ _ _
      | exact ih1 _ _ _ _ _ _ _ _ _ _ _ _
      | exact ih2 _ _ _ _ _ _ _ _ _ _ _ _ _
      | exact ih3 _ _ _ _ _ _ _ _ _ _ _ _ _
      | exact ih4 _ _ _ _ _ _ _ _ _ _ _ _ _ _
      | exact ih5 _ _ _ _ _ _ _ _ _ _ _ _ _ _ _
      | exact ih6 _ _ _ _ _ _ _ _ _ _ _ _ _
      | exact ih7 _ _ _ _ _ _ _ _ _ _ _ _ _ _ _
      | exact flow_Reach.mono _ _ _ _
      | exact turnstilelaw01_Beyond.mono _ _
      | exact turnstilelaw01_GraphSize.mono _ _ _ _
      | exact turnstilelaw12_alive.mono _
      | exact LeO.none _
      | refine LeO.ite ?_ ?_
      | refine LeO.bind ?_ (fun _ => ?_)
    · intro y0 y1 y2 y3 y4 y5 y6 y7 y8 y9 y10 y11 y12 y13 y14
      unfold turnstilelaw12_FlowWays.l2
      repeat' first
      | (with_reducible exact ih0 _ _ _ _ _ _ _ _ _)
      | (with_reducible exact ih1 _ _ _ _ _ _ _ _ _ _ _ _)
      | (with_reducible exact ih2 _ _ _ _ _ _ _ _ _ _ _ _ _)
      | (with_reducible exact ih3 _ _ _ _ _ _ _ _ _ _ _ _ _)
      | (with_reducible exact ih4 _ _ _ _ _ _ _ _ _ _ _ _ _ _)
      | (with_reducible exact ih5 _ _ _ _ _ _ _ _ _ _ _ _ _ _ _)
      | (with_reducible exact ih6 _ _ _ _ _ _ _ _ _ _ _ _ _)
      | (with_reducible exact ih7 _ _ _ _ _ _ _ _ _ _ _ _ _ _ _)
      | (with_reducible exact flow_Reach.mono _ _ _ _)
      | (with_reducible exact turnstilelaw01_Beyond.mono _ _)
      | (with_reducible exact turnstilelaw01_GraphSize.mono _ _ _ _)
      | (with_reducible exact turnstilelaw12_alive.mono _)
      | (with_reducible exact LeO.refl _)
      | (with_reducible exact LeO.none _)
      | (with_reducible refine LeO.ite ?_ ?_)
      | (with_reducible refine LeO.bind ?_ (fun _ => ?_))
      | exact ih0 _ _ _ _ _ _ _ _ _
      | exact ih1 _ _ _ _ _ _ _ _ _ _ _ _
      | exact ih2 _ _ _ _ _ _ _ _ _ _ _ _ _
      | exact ih3 _ _ _ _ _ _ _ _ _ _ _ _ _
      | exact ih4 _ _ _ _ _ _ _ _ _ _ _ _ _ _
      | exact ih5 _ _ _ _ _ _ _ _ _ _ _ _ _ _ _
      | exact ih6 _ _ _ _ _ _ _ _ _ _ _ _ _
      | exact ih7 _ _ _ _ _ _ _ _ _ _ _ _ _ _ _
      | exact flow_Reach.mono _ _ _ _
      | exact turnstilelaw01_Beyond.mono _ _
      | exact turnstilelaw01_GraphSize.mono _ _ _ _
      | exact turnstilelaw12_alive.mono _
      | exact LeO.none _
      | refine LeO.ite ?_ ?_
      | refine LeO.bind ?_ (fun _ => ?_)
theorem turnstilelaw12_FlowWays.mono : ∀ a0 a1 a2 a3 k, LeO (turnstilelaw12_FlowWays.f k a0 a1 a2 a3) (turnstilelaw12_FlowWays.f (k + 1) a0 a1 a2 a3) := by
  intro a0 a1 a2 a3 k
  obtain ⟨ih0, ih1, ih2, ih3, ih4, ih5, ih6, ih7⟩ := turnstilelaw12_FlowWays.mono_l k
  unfold turnstilelaw12_FlowWays.f
  repeat' first
      | (with_reducible exact ih0 _ _ _ _ _ _ _ _ _)
      | (with_reducible exact ih1 _ _ _ _ _ _ _ _ _ _ _ _)
      | (with_reducible exact ih2 _ _ _ _ _ _ _ _ _ _ _ _ _)
      | (with_reducible exact ih3 _ _ _ _ _ _ _ _ _ _ _ _ _)
      | (with_reducible exact ih4 _ _ _ _ _ _ _ _ _ _ _ _ _ _)
      | (with_reducible exact ih5 _ _ _ _ _ _ _ _ _ _ _ _ _ _ _)
      | (with_reducible exact ih6 _ _ _ _ _ _ _ _ _ _ _ _ _)
      | (with_reducible exact ih7 _ _ _ _ _ _ _ _ _ _ _ _ _ _ _)
      | (with_reducible exact flow_Reach.mono _ _ _ _)
      | (with_reducible exact turnstilelaw01_Beyond.mono _ _)
      | (with_reducible exact turnstilelaw01_GraphSize.mono _ _ _ _)
      | (with_reducible exact turnstilelaw12_alive.mono _)
      | (with_reducible exact LeO.refl _)
      | (with_reducible exact LeO.none _)
      | (with_reducible refine LeO.ite ?_ ?_)
      | (with_reducible refine LeO.bind ?_ (fun _ => ?_))
      | exact ih0 _ _ _ _ _ _ _ _ _
      | exact ih1 _ _ _ _ _ _ _ _ _ _ _ _
      | exact ih2 _ _ _ _ _ _ _ _ _ _ _ _ _
      | exact ih3 _ _ _ _ _ _ _ _ _ _ _ _ _
      | exact ih4 _ _ _ _ _ _ _ _ _ _ _ _ _ _
      | exact ih5 _ _ _ _ _ _ _ _ _ _ _ _ _ _ _
      | exact ih6 _ _ _ _ _ _ _ _ _ _ _ _ _
      | exact ih7 _ _ _ _ _ _ _ _ _ _ _ _ _ _ _
      | exact flow_Reach.mono _ _ _ _
      | exact turnstilelaw01_Beyond.mono _ _
      | exact turnstilelaw01_GraphSize.mono _ _ _ _
      | exact turnstilelaw12_alive.mono _
      | exact LeO.none _
      | refine LeO.ite ?_ ?_
      | refine LeO.bind ?_ (fun _ => ?_)
end Go.Proofs.Ytjmeignhhheckaa.Q
namespace Go.Proofs.Ytjmeignhhheckaa.H
open Go.RowKit Go.Maps Go.Proofs.YtjmeignhhheckaaW.PrintWords Go.Proofs.YtjmeignhhheckaaW.PrintLast Go.Proofs.Ytjmeignhhheckaa.Q Go.Proofs.Ytjmeignhhheckaa.D
set_option maxRecDepth 100000
def sel (s : Bool) (i o : List Bool) : List Bool := if s then i else o
theorem sel_set {s t : Bool} {i o : List Bool} {n : Nat} (hi : i.length = n) (ho : o.length = n) {v : Int} (h0 : 0 ≤ v) (h1 : v < n) {b : Int} (hb : 0 ≤ b) :
    rdOf false (sel t (if s then i.set v.toNat true else i) (if s then o else o.set v.toNat true)) b = if s = t ∧ b = v then true else rdOf false (sel t i o) b := by
  cases s <;> cases t <;> simp only [sel, if_true, if_false, Bool.false_eq_true, false_and, true_and, reduceCtorEq]
  · exact rdOf_set h0 (by omega) hb
  · exact rdOf_set h0 (by omega) hb
theorem sides_closed (bs : List S36) (hT : okT bs) : ∀ (k : Nat) (st : List S171) (i o i' o' : List Bool), sidesGo bs k st i o = some (i', o') → i.length = bs.length → o.length = bs.length → (∀ v ∈ st, 0 ≤ v.f0 ∧ v.f0 < bs.length) →
    (∀ s (b : Int), 0 ≤ b → rdOf false (sel s i o) b = true → rdOf false (sel s i' o') b = true) ∧ (∀ v ∈ st, rdOf false (sel v.f1 i' o') v.f0 = true) ∧
    (∀ s (b : Int), 0 ≤ b → rdOf false (sel s i' o') b = true → rdOf false (sel s i o) b = true ∨ ∀ t ∈ nexts (rd_T36 bs b), rdOf false (sel (blkEnd (rd_T36 bs b).f0 s) i' o') t = true) := by
  intro k
  induction k with
  | zero =>
    intro st i o i' o' h hi ho hst
    cases st with
    | nil =>
      obtain ⟨rfl, rfl⟩ : i = i' ∧ o = o' := by simpa [sidesGo] using h
      exact ⟨fun s b _ h => h, (by simp), fun s b _ h => .inl h⟩
    | cons v st => cases h
  | succ k ih =>
    intro st i o i' o' h hi ho hst
    cases st with
    | nil =>
      obtain ⟨rfl, rfl⟩ : i = i' ∧ o = o' := by simpa [sidesGo] using h
      exact ⟨fun s b _ h => h, (by simp), fun s b _ h => .inl h⟩
    | cons v st =>
      have hv := hst v (by simp)
      simp only [sidesGo] at h
      by_cases hq : (if v.f1 then rdOf false i v.f0 else rdOf false o v.f0) = true
      · rw [if_pos hq] at h
        obtain ⟨h1, h2, h3⟩ := ih st i o i' o' h hi ho (fun u hu => hst u (by simp [hu]))
        refine ⟨h1, fun u hu => ?_, h3⟩
        rcases List.mem_cons.1 hu with rfl | hu
        · refine h1 _ _ hv.1 ?_
          unfold sel
          cases hf : u.f1 <;> simp only [hf, if_true, if_false, Bool.false_eq_true] at hq ⊢ <;> exact hq
        · exact h2 u hu
      · rw [if_neg hq] at h
        obtain ⟨h1, h2, h3⟩ := ih _ _ _ i' o' h (by split <;> simp [hi]) (by split <;> simp [ho]) (fun u hu => by
          rcases List.mem_append.1 hu with hu | hu
          · rw [List.mem_reverse, List.mem_map] at hu
            obtain ⟨t, ht, rfl⟩ := hu
            exact hT _ (getD_mem (by omega)) t ht
          · exact hst u (by simp [hu]))
        have hvv : rdOf false (sel v.f1 i' o') v.f0 = true := h1 v.f1 v.f0 hv.1 (by rw [sel_set hi ho hv.1 hv.2 hv.1, if_pos ⟨rfl, rfl⟩])
        refine ⟨fun s b hb hh => h1 s b hb ?_, fun u hu => ?_, fun s b hb hh => ?_⟩
        · rw [sel_set hi ho hv.1 hv.2 hb]
          split
          · rfl
          · exact hh
        · rcases List.mem_cons.1 hu with rfl | hu
          · exact hvv
          · exact h2 u (by simp [hu])
        · rcases h3 s b hb hh with h4 | h4
          · rw [sel_set hi ho hv.1 hv.2 hb] at h4
            split at h4
            · rename_i he
              obtain ⟨rfl, rfl⟩ := he
              refine .inr fun t ht => ?_
              exact h2 ⟨t, blkEnd (rd_T36 bs v.f0).f0 v.f1⟩ (by
                rw [List.mem_append, List.mem_reverse, List.mem_map]
                exact .inl ⟨t, ht, rfl⟩)
            · exact .inl h4
          · exact .inr h4
theorem bothScan_none {i o : List Bool} : ∀ (m n : Nat), bothScan i o m n = none → ∀ b : Nat, n ≤ b → b < n + m → ¬ (rdOf false i b = true ∧ rdOf false o b = true) := by
  intro m
  induction m with
  | zero => intro n _ b h1 h2; omega
  | succ m ih =>
    intro n h b h1 h2
    simp only [bothScan] at h
    by_cases hq : (rdOf false i n && rdOf false o n) = true
    · rw [if_pos hq] at h; cases h
    · rw [if_neg hq] at h
      by_cases e : b = n
      · subst e
        intro hh
        exact hq (by rw [hh.1, hh.2]; rfl)
      · exact ih (n + 1) h b (by omega) (by omega)
theorem both_none {xs : List Bool} {sites : Int} {bs : List S36} (h : gE xs sites bs = 0) : bothScan (sidesOf bs).1 (sidesOf bs).2 bs.length 0 = none := by
  unfold gE at h
  by_cases hc : (checkS 65536 [⟨xs, sites, bs⟩]).2.2.2 = 0
  · unfold checkS at hc
    split at hc
    · cases hc
    split at hc
    · cases hc
    unfold goS at hc
    dsimp only at hc
    by_cases h0 : countsS xs sites bs = 0
    · rw [if_neg (by rw [h0]; decide)] at hc
      by_cases hf : (faultS xs sites 65536 bs).2.2 = true
      · rw [if_pos hf] at hc; cases hc
      · unfold faultS at hf
        cases hb : blkScan xs sites 65536 bs.length bs 0 [] with
        | some p => rw [hb] at hf; exact absurd rfl hf
        | none =>
          rw [hb] at hf
          dsimp only at hf
          cases hq : bothScan (sidesOf bs).1 (sidesOf bs).2 bs.length 0 with
          | none => rfl
          | some n => rw [hq] at hf; exact absurd rfl hf
    · rw [if_pos h0] at hc
      exact absurd hc h0
  · rw [if_neg hc] at h; cases h
structure SideOk (bs : List S36) : Prop where
  li : (sidesOf bs).1.length = bs.length
  lo : (sidesOf bs).2.length = bs.length
  zero : rdOf false (sel false (sidesOf bs).1 (sidesOf bs).2) 0 = true
  next : ∀ s (b : Int), 0 ≤ b → rdOf false (sel s (sidesOf bs).1 (sidesOf bs).2) b = true → ∀ t ∈ nexts (rd_T36 bs b), rdOf false (sel (blkEnd (rd_T36 bs b).f0 s) (sidesOf bs).1 (sidesOf bs).2) t = true
  one : ∀ s (b : Nat), b < bs.length → rdOf false (sel s (sidesOf bs).1 (sidesOf bs).2) b = true → rdOf false (sidesOf bs).1 b = s
theorem sideOk {xs : List Bool} {sites : Int} {bs : List S36} (h : gE xs sites bs = 0) : SideOk bs := by
  have F := FEnv.of h
  obtain ⟨h0, h1, h2⟩ := sidesOf_eq bs F.T F.ne
  obtain ⟨h3, h4, h5⟩ := sides_closed bs F.T _ _ _ _ _ _ h0 (by simp) (by simp) (by simp; exact F.ne)
  have hz : ∀ s (b : Int), rdOf false (sel s (List.replicate bs.length false) (List.replicate bs.length false)) b = false := fun s b => by
    have : sel s (List.replicate bs.length false) (List.replicate bs.length false) = List.replicate bs.length false := by unfold sel; split <;> rfl
    rw [this]
    unfold rdOf
    rw [List.getD_eq_getElem?_getD, List.getElem?_replicate]
    split <;> rfl
  refine ⟨h1, h2, h4 ⟨0, false⟩ (by simp), fun s b hb hh => ?_, fun s b hb hh => ?_⟩
  · rcases h5 s b hb hh with h6 | h6
    · rw [hz] at h6; cases h6
    · exact h6
  · have := bothScan_none _ _ (both_none h) b (by omega) (by omega)
    cases s with
    | true => exact hh
    | false =>
      have hh : rdOf false (sidesOf bs).2 b = true := hh
      cases hq : rdOf false (sidesOf bs).1 b with
      | false => rfl
      | true => exact absurd ⟨hq, hh⟩ this
theorem inside_f {xs : List Bool} {sites : Int} {bs : List S36} (hs : smallG bs) : ∃ x, flow_Inside.f xs sites bs = some (x, gE xs sites bs) ∧ (gE xs sites bs = 0 → x = (sidesOf bs).1) := by
  unfold flow_Inside.f
  rw [check_f xs sites bs hs, Option.bind_some]
  by_cases h : gE xs sites bs = 0
  · have F := FEnv.of h
    rw [if_pos h, h]
    unfold paths_Sides.f
    rw [if_pos ⟨F.ne, by have := F.nb; omega, F.T⟩]
    exact ⟨_, rfl, fun _ => rfl⟩
  · rw [if_neg h]
    exact ⟨_, rfl, fun h2 => absurd h2 h⟩
end Go.Proofs.Ytjmeignhhheckaa.H
namespace Go.Proofs.Ytjmeignhhheckaa.H
open Go.RowKit Go.Maps Go.Proofs.YtjmeignhhheckaaW.PrintWords Go.Proofs.YtjmeignhhheckaaW.PrintLast Go.Proofs.Ytjmeignhhheckaa.Q Go.Proofs.Ytjmeignhhheckaa.D
set_option maxRecDepth 100000
theorem fstep2 {i : Nat} (h : i < 9223372036854775807) : Go.RowKit.wrap64 ((i : Int) + 1) = ((i + 1 : Nat) : Int) := by
  unfold Go.RowKit.wrap64; omega
def nextR (b : S36) : List Int := if b.f1 = 1 then [b.f3] else if b.f1 = 2 then [b.f3, b.f4] else []
theorem nextR_f (b : S36) : turnstileref09_Next.f b.f0 b.f1 b.f2 b.f3 b.f4 = some (nextR b) := by
  unfold turnstileref09_Next.f nextR
  repeat' split
  all_goals rfl
theorem nextR_mem {b : S36} {t : Int} (h : t ∈ nextR b) : t ∈ nexts b := by
  unfold nextR at h
  unfold nexts
  by_cases h1 : b.f1 = 1
  · rw [if_pos h1] at h
    simp [h1]
    simpa using h
  · rw [if_neg h1] at h
    by_cases h2 : b.f1 = 2
    · rw [if_pos h2] at h
      by_cases h3 : b.f3 = b.f4
      · simp [h2, h3] at h ⊢
        exact h
      · simp [h2, h3] at h ⊢
        exact h
    · rw [if_neg h2] at h; cases h
section
variable {xs : List Bool} {sites : Int} {bs : List S36} {picks : List Int}
abbrev W0 (picks : List Int) (xs : List Bool) (sites : Int) (bs : List S36) (k : Nat) (met : List Bool) (a : Int) (s : Bool) (i : Int) : Option Bool :=
  turnstilelaw12_FlowWays.l0 k picks (reachS bs) (ahS bs) (domF bs) (sidesOf bs).1 met a s i xs sites bs
theorem ways_l1 (met : List Bool) (a : Nat) (ha : a < bs.length) (i : Int) (hi : 0 ≤ i) (hl : (rd_T36 bs (a : Int)).f0.length ≤ 100000) (F : Nat) (fin : Bool)
    (hn : ∀ k, F ≤ k → ∀ c, (c = true ↔ i ≥ (picks.length : Int) ∨ nextR (rd_T36 bs (a : Int)) = []) → turnstilelaw12_FlowWays.j4 k picks (reachS bs) (ahS bs) (domF bs) (sidesOf bs).1 met a fin i (nextR (rd_T36 bs (a : Int))) c xs sites bs = some true) :
    ∀ (d x : Nat) (s : Bool) (k : Nat), x + d = (rd_T36 bs (a : Int)).f0.length → blkEnd ((rd_T36 bs (a : Int)).f0.drop x) s = fin → F + d + 1 ≤ k →
      turnstilelaw12_FlowWays.l1 k picks (reachS bs) (ahS bs) (domF bs) (sidesOf bs).1 met a s i x xs sites bs = some true := by
  intro d
  induction d with
  | zero =>
    intro x s k hx hb hk
    obtain ⟨k, rfl⟩ : ∃ m, k = m + 1 := ⟨k - 1, by omega⟩
    rw [List.drop_of_length_le (by omega)] at hb
    have hb : s = fin := hb
    subst hb
    simp only [turnstilelaw12_FlowWays.l1]
    rw [if_pos (by omega), if_pos (by omega), if_neg (by omega), nextR_f, Option.bind_some]
    by_cases h : i ≥ (picks.length : Int)
    · rw [if_pos h]
      exact hn k (by omega) true ⟨fun _ => .inl h, fun _ => rfl⟩
    · rw [if_neg h]
      refine hn k (by omega) _ ⟨fun hh => .inr ?_, fun hh => ?_⟩
      · have : ((nextR (rd_T36 bs (a : Int))).length : Int) = 0 := by simpa using hh
        exact List.length_eq_zero_iff.1 (by omega)
      · rcases hh with hh | hh
        · exact absurd hh h
        · rw [hh]; rfl
  | succ d ih =>
    intro x s k hx hb hk
    obtain ⟨k, rfl⟩ : ∃ m, k = m + 1 := ⟨k - 1, by omega⟩
    simp only [turnstilelaw12_FlowWays.l1]
    have hxl : x < (rd_T36 bs (a : Int)).f0.length := by omega
    rw [drop_at _ x z46 hxl] at hb
    have hrd : rd_T46 (rd_T36 bs (a : Int)).f0 (x : Int) = (rd_T36 bs (a : Int)).f0.getD x z46 := rfl
    rw [if_pos (by omega), if_pos (by omega), if_pos (by omega), if_pos (by omega), hrd, fstep (by omega)]
    generalize (rd_T36 bs (a : Int)).f0.getD x z46 = ii at *
    by_cases h13 : ii.f0 = 13
    · rw [if_pos h13, h13]
      refine ih (x + 1) _ k (by omega) ?_ (by omega)
      rw [← hb]
      simp [blkEnd, h13]
    · rw [if_neg h13]
      by_cases h14 : ii.f0 = 14
      · rw [if_pos h14, h14]
        refine ih (x + 1) _ k (by omega) ?_ (by omega)
        rw [← hb]
        simp [blkEnd, h14]
      · rw [if_neg h14]
        refine ih (x + 1) _ k (by omega) ?_ (by omega)
        rw [← hb]
        simp [blkEnd, h13, h14]
theorem ways_l2 (met : List Bool) (a : Int) (s : Bool) (i : Nat) (hi : i < 9223372036854775807) (t : Nat) (ht : t < bs.length) (hr : ((ahS bs).getD t []).length ≤ 100000) (F : Nat)
    (hn : ∀ k, F ≤ k → W0 picks xs sites bs k met t s ((i + 1 : Nat) : Int) = some true) :
    ∀ (d x : Nat) (c : Bool) (k : Nat), x + d = ((ahS bs).getD t []).length → (c = true ∨ a ∈ ((ahS bs).getD t []).drop x) → F + d + 1 ≤ k →
      turnstilelaw12_FlowWays.l2 k picks (reachS bs) (ahS bs) (domF bs) (sidesOf bs).1 met a s i t c x xs sites bs = some true := by
  intro d
  induction d with
  | zero =>
    intro x c k hx hc hk
    obtain ⟨k, rfl⟩ : ∃ m, k = m + 1 := ⟨k - 1, by omega⟩
    rw [List.drop_of_length_le (by omega)] at hc
    have hc : c = true := hc.resolve_right (by simp)
    subst hc
    simp only [turnstilelaw12_FlowWays.l2]
    have hrd : rd_L13 (ahS bs) (t : Int) = (ahS bs).getD t [] := rfl
    rw [if_pos (by omega), if_pos (by rw [ahS_len]; omega), hrd, if_neg (by omega), if_pos trivial, fstep2 hi]
    exact hn k (by omega)
  | succ d ih =>
    intro x c k hx hc hk
    obtain ⟨k, rfl⟩ : ∃ m, k = m + 1 := ⟨k - 1, by omega⟩
    simp only [turnstilelaw12_FlowWays.l2]
    have hrd : rd_L13 (ahS bs) (t : Int) = (ahS bs).getD t [] := rfl
    rw [if_pos (by omega), if_pos (by rw [ahS_len]; omega), hrd, if_pos (by omega), fstep (by omega)]
    cases c with
    | true =>
      rw [if_pos rfl]
      exact ih (x + 1) true k (by omega) (.inl rfl) (by omega)
    | false =>
      rw [if_neg (by decide), if_pos (by omega)]
      refine ih (x + 1) _ k (by omega) ?_ (by omega)
      have hc := hc.resolve_left (by decide)
      rw [dropI (by omega)] at hc
      have hre : rd ((ahS bs).getD t []) (x : Int) = ((ahS bs).getD t []).getD x 0 := rfl
      rw [hre]
      rcases List.mem_cons.1 hc with h | h
      · left; rw [h]; simp
      · right; exact h
/-- from a place on the way to the next -/
structure Way (bs : List S36) (D' : Nat → Nat) (met : List Bool) (ai : Nat) (s : Bool) : Prop where
  ml : met.length = bs.length
  al : ai < (orderS bs).length
  sd : rdOf false (sel s (sidesOf bs).1 (sidesOf bs).2) ((orderS bs).getD ai 0) = true
  an : ∀ x, Anc D' x ai → x ≠ ai → rdOf false met ((orderS bs).getD x 0) = true
theorem ways_step (h : FEnv bs) (hS : SideOk bs) (hI : ∀ b : Nat, (rd_T36 bs (b : Int)).f0.length ≤ 10000) {D' : Nat → Nat} (hr : Rel bs.length (orderS bs).length (orderS bs) (domR bs) (orderS bs).length D') (hT : Tree D' (orderS bs).length)
    (hC : ∀ b, 0 < b → b < (orderS bs).length → Common D' (pre (orderS bs) (numO bs) (ahS bs) b) (D' b)) (hrl : ∀ t : Nat, ((ahS bs).getD t []).length ≤ 10000) (hp : picks.length ≤ 9223372036854775807)
    (i : Nat) (met : List Bool) (ai : Nat) (s : Bool) (k F : Nat) (hi : i ≤ picks.length) (hw : Way bs D' met ai s) (hk : F + 20100 ≤ k)
    (hn : i < picks.length → ∀ (met' : List Bool) (ti : Nat) (s' : Bool), Way bs D' met' ti s' → ∀ k, F ≤ k → W0 picks xs sites bs k met' ((orderS bs).getD ti 0) s' ((i + 1 : Nat) : Int) = some true) :
    W0 picks xs sites bs k met ((orderS bs).getD ai 0) s i = some true := by
  have O := h.ord
  have E := env_of bs h.T h.ne
  have hnb := h.nb
  have hol := h.olen
  obtain ⟨k, rfl⟩ : ∃ m, k = m + 5 := ⟨k - 5, by omega⟩
  have hor := O.rng _ (getD_mem (d := 0) hw.al)
  have hmem := getD_mem (d := 0) hw.al
  obtain ⟨a, hae⟩ := Int.eq_ofNat_of_zero_le hor.1
  have hal : a < bs.length := by omega
  have hre : rdOf false (reachS bs) (a : Int) = true := by
    rw [h.reach a hal, ← hae]
    exact decide_eq_true (getD_mem hw.al)
  have hin : rdOf false (sidesOf bs).1 (a : Int) = s := hS.one s a hal (by rw [← hae]; exact hw.sd)
  have hml : (met.set a true).length = bs.length := by rw [List.length_set]; exact hw.ml
  have hset : ∀ x : Int, 0 ≤ x → rdOf false (met.set a true) x = if x = a then true else rdOf false met x := fun x hx => by
    have := rdOf_set (met := met) (n := (a : Int)) (by omega) (by rw [hw.ml]; omega) hx
    rwa [Int.toNat_natCast] at this
  have hall : ∀ x, Anc D' x ai → rdOf false (met.set a true) ((orderS bs).getD x 0) = true := fun x hx => by
    have hxl := anc_le hT hx hw.al
    have hxr := O.rng _ (getD_mem (d := 0) (show x < (orderS bs).length by have := hw.al; omega))
    rw [hset _ hxr.1]
    split
    · rfl
    · rename_i hne
      refine hw.an x hx (fun e => hne ?_)
      rw [e, hae]
  have hsd := hw.sd
  rw [hae] at hmem hsd
  have hnext : i < picks.length → ∀ t ∈ nextR (rd_T36 bs (a : Int)), ∀ k, F + 10020 ≤ k → turnstilelaw12_FlowWays.j6 k picks (reachS bs) (ahS bs) (domF bs) (sidesOf bs).1 (met.set a true) a (blkEnd (rd_T36 bs (a : Int)).f0 s) i t xs sites bs = some true := by
    intro hip t ht k hk
    have htn := nextR_mem ht
    have hto := O.next _ hmem t htn
    obtain ⟨ti, hti, hte⟩ := order_idx hto
    have htr := O.rng _ hto
    obtain ⟨tn, htn2⟩ := Int.eq_ofNat_of_zero_le htr.1
    obtain ⟨k, rfl⟩ : ∃ m, k = m + 1 := ⟨k - 1, by omega⟩
    simp only [turnstilelaw12_FlowWays.j6]
    have hmr : (a : Int) ∈ (ahS bs).getD tn [] := (mem_ahS bs h.T h.ne tn _).2 ⟨hmem, by rw [← htn2]; exact htn⟩
    have hway : Way bs D' (met.set a true) ti (blkEnd (rd_T36 bs (a : Int)).f0 s) := by
      refine ⟨hml, hti, ?_, fun x hx hne => ?_⟩
      · rw [← hte]
        exact hS.next s a (by omega) hsd t htn
      · rcases anc_iff.1 hx with rfl | ⟨h0, h1⟩
        · exact absurd rfl hne
        · refine hall x ((hC ti h0 hti x).1 h1 ai ?_)
          unfold pre
          rw [List.mem_map]
          refine ⟨(a : Int), ?_, ?_⟩
          · rw [← hte, htn2, Int.toNat_natCast]
            exact hmr
          · have := E.nms ai hw.al
            rw [hae] at this
            rw [this, Int.toNat_natCast]
    rw [htn2]
    refine ways_l2 (met.set a true) a (blkEnd (rd_T36 bs (a : Int)).f0 s) i (by omega) tn (by omega) (by have := hrl tn; omega) F (fun k2 hk2 => ?_) _ 0 false k (by rw [Nat.zero_add]) (.inr hmr) (by have := hrl tn; omega)
    have := hn hip _ ti _ hway k2 hk2
    rw [← hte, htn2] at this
    exact this
  rw [hae]
  simp only [W0, turnstilelaw12_FlowWays.l0]
  rw [if_pos (by omega), if_pos (by rw [hw.ml]; omega), Option.bind_some, Int.toNat_natCast, if_pos (by rw [h.rlen]; omega), if_pos hre, if_pos (by rw [hS.li]; omega), hin, if_neg (by cases s <;> decide), if_pos (by rw [h.dlen]; omega)]
  have hgo : turnstilelaw12_FlowWays.j2 (k + 4) picks (reachS bs) (ahS bs) (domF bs) (sidesOf bs).1 (met.set a true) a s i false xs sites bs = some true := by
    simp only [turnstilelaw12_FlowWays.j2]
    rw [if_neg (by decide)]
    refine ways_l1 (met.set a true) a hal i (by omega) (by have := hI a; omega) (F + 10040) (blkEnd (rd_T36 bs (a : Int)).f0 s) (fun k2 hk2 c hc => ?_) (rd_T36 bs (a : Int)).f0.length 0 s (k + 3) (by omega) rfl (by have := hI a; omega)
    obtain ⟨k2, rfl⟩ : ∃ m, k2 = m + 1 := ⟨k2 - 1, by omega⟩
    simp only [turnstilelaw12_FlowWays.j4]
    cases c with
    | true =>
      rw [if_pos rfl, fl_alive k2 (by omega)]
      rfl
    | false =>
      have hnc : ¬ (((i : Nat) : Int) ≥ (picks.length : Int) ∨ nextR (rd_T36 bs (a : Int)) = []) := fun hh => by have := hc.2 hh; cases this
      have hip : i < picks.length := by omega
      have hne : nextR (rd_T36 bs (a : Int)) ≠ [] := fun e => hnc (.inr e)
      have hln : 0 < (nextR (rd_T36 bs (a : Int))).length := List.length_pos_iff.2 hne
      rw [if_neg (by decide), if_pos (by omega), if_pos (by omega), if_pos (by omega)]
      obtain ⟨k2, rfl⟩ : ∃ m, k2 = m + 1 := ⟨k2 - 1, by omega⟩
      have h0 : rd (nextR (rd_T36 bs (a : Int))) 0 ∈ nextR (rd_T36 bs (a : Int)) := by unfold rd; exact getD_mem hln
      have hj : ∀ c2 : Bool, (c2 = true → 1 < (nextR (rd_T36 bs (a : Int))).length) → turnstilelaw12_FlowWays.j5 (k2 + 1) picks (reachS bs) (ahS bs) (domF bs) (sidesOf bs).1 (met.set a true) a (blkEnd (rd_T36 bs (a : Int)).f0 s) i (nextR (rd_T36 bs (a : Int))) (rd (nextR (rd_T36 bs (a : Int))) 0) c2 xs sites bs = some true := by
        intro c2 hc2
        simp only [turnstilelaw12_FlowWays.j5]
        cases c2 with
        | false =>
          rw [if_neg (by decide)]
          exact hnext hip _ h0 _ (by omega)
        | true =>
          have h1 := hc2 rfl
          rw [if_pos rfl, if_pos (by omega)]
          exact hnext hip _ (by unfold rd; exact getD_mem h1) _ (by omega)
      split
      · exact hj false (by simp)
      · refine hj _ (fun hh => ?_)
        have := of_decide_eq_true hh
        omega
  have hd : rd (domF bs) (a : Int) = if a = 0 then -1 else (orderS bs).getD (D' ai) 0 := by
    show (domF bs).getD a 0 = _
    rw [h.dget]
    split
    · rfl
    · have := hr.yes ai hw.al
      rw [hae, Int.toNat_natCast] at this
      exact this
  rw [hd]
  by_cases ha0 : a = 0
  · rw [if_pos ha0, if_neg (by decide)]
    exact hgo
  · rw [if_neg ha0]
    have hai0 : 0 < ai := Nat.pos_of_ne_zero fun e => by
      rw [e, O.zero] at hae
      omega
    have hlt := hT ai hai0 hw.al
    have hd2 := O.rng _ (getD_mem (d := 0) (show D' ai < (orderS bs).length by have := hw.al; omega))
    rw [if_pos hd2.1, if_pos hd2.1, if_pos (by rw [hw.ml]; omega), hall _ (anc_iff.2 (.inr ⟨hai0, Anc.refl _⟩))]
    exact hgo
theorem ways_go (h : FEnv bs) (hS : SideOk bs) (hI : ∀ b : Nat, (rd_T36 bs (b : Int)).f0.length ≤ 10000) {D' : Nat → Nat} (hr : Rel bs.length (orderS bs).length (orderS bs) (domR bs) (orderS bs).length D') (hT : Tree D' (orderS bs).length)
    (hC : ∀ b, 0 < b → b < (orderS bs).length → Common D' (pre (orderS bs) (numO bs) (ahS bs) b) (D' b)) (hrl : ∀ t : Nat, ((ahS bs).getD t []).length ≤ 10000) (hp : picks.length ≤ 9223372036854775807) :
    ∀ (d i : Nat) (met : List Bool) (ai : Nat) (s : Bool) (k : Nat), i + d = picks.length → Way bs D' met ai s → d * 30000 + 30000 ≤ k → W0 picks xs sites bs k met ((orderS bs).getD ai 0) s i = some true := by
  intro d
  induction d with
  | zero =>
    intro i met ai s k hi hw hk
    exact ways_step h hS hI hr hT hC hrl hp i met ai s k 0 (by omega) hw (by omega) (fun hip => by omega)
  | succ d ih =>
    intro i met ai s k hi hw hk
    exact ways_step h hS hI hr hT hC hrl hp i met ai s k (d * 30000 + 30000) (by omega) hw (by omega) (fun _ met' ti s' hw' k2 hk2 => ih (i + 1) met' ti s' k2 (by omega) hw' hk2)
end
theorem row_len (bs : List S36) (hT : okT bs) (hne : 0 < bs.length) (hol : (orderS bs).length ≤ 5000) (t : Nat) : ((ahS bs).getD t []).length ≤ 10000 := by
  have O := orderS_ok bs hT hne
  have hnx : ∀ b ∈ orderS bs, ∀ u ∈ nexts (rd_T36 bs b), 0 ≤ u ∧ u < (List.replicate bs.length ([] : List Int)).length := fun b hb u hu => by
    rw [List.length_replicate]
    exact hT _ (getD_mem (d := z36) (by have := O.rng b hb; omega)) u hu
  have hg : (ahS bs).getD t [] = sortI ((ahGo bs (orderS bs) (List.replicate bs.length [])).getD t []) := by
    unfold ahS
    rw [List.getD_eq_getElem?_getD, List.getElem?_map, List.getD_eq_getElem?_getD]
    cases (ahGo bs (orderS bs) (List.replicate bs.length []))[t]? with
    | none => simp [sortI]
    | some x => rfl
  rw [hg]
  unfold sortI
  rw [List.length_mergeSort, ahGo_get bs t _ _ hnx]
  have : (List.replicate bs.length ([] : List Int)).getD t [] = [] := by
    rw [List.getD_eq_getElem?_getD, List.getElem?_replicate]
    split <;> rfl
  rw [this, List.nil_append]
  have := ahRow_len bs t (orderS bs)
  omega
theorem flowWays_pure (xs : List Bool) (sites : Int) (bs : List S36) (hs : smallG bs) (picks : List Int) (hp : picks.length ≤ 9223372036854775807) : ∃ k, turnstilelaw12_FlowWays.f k xs sites bs picks = some true := by
  obtain ⟨k0, hk0⟩ := reach_k xs sites bs hs
  obtain ⟨x, hx1, hx2⟩ := inside_f (xs := xs) (sites := sites) hs
  obtain ⟨K, hK⟩ : ∃ K, K = k0 + bs.length + picks.length * 30000 + 30000000 := ⟨_, rfl⟩
  refine ⟨K, ?_⟩
  unfold turnstilelaw12_FlowWays.f
  obtain ⟨t, ht⟩ := fsize xs sites bs hs.1 K (by omega)
  rw [ht, Option.bind_some]
  obtain ⟨c, hc⟩ := fbeyond t K (by omega)
  rw [hc, Option.bind_some]
  cases c with
  | true => rw [if_pos rfl]
  | false =>
    rw [if_neg (by decide), hk0 K (by omega), Option.bind_some, ahead_f xs sites bs hs, Option.bind_some, dom_f xs sites bs hs, Option.bind_some, hx1, Option.bind_some]
    dsimp only
    by_cases hE : gE xs sites bs = 0
    · have h := FEnv.of hE
      have hS := sideOk hE
      obtain rfl := hx2 hE
      have hne := h.ne
      have hnb := h.nb
      have hol := h.olen
      rw [if_pos hE, if_pos hE, if_pos hE, if_pos hE]
      rw [if_pos (by rw [h.rlen]), if_pos (by rw [h.rlen, hS.li]), if_pos (by rw [h.rlen, h.dlen])]
      obtain ⟨_, D', hr, hD0, hT, hC⟩ := domR_ok bs h.T h.ne
      obtain ⟨K', rfl⟩ : ∃ m, K = m + 1 := ⟨K - 1, by omega⟩
      simp only [turnstilelaw12_FlowWays.j0]
      have hb0 : ((((reachS bs).length : Nat) : Int) == 0) = false := by
        rw [h.rlen, beq_eq_false_iff_ne]
        omega
      rw [hb0, if_neg (by decide), if_pos (by omega), if_pos (by omega), Int.toNat_natCast]
      have hI : ∀ b : Nat, (rd_T36 bs (b : Int)).f0.length ≤ 10000 := fun b => by
        by_cases hb : b < bs.length
        · have h1 : (rd_T36 bs (b : Int)).f0.length + insTotal (bs.drop (b + 1)) = insTotal (bs.drop b) := (insTotal_drop bs b hb).symm
          have h2 : insTotal (bs.drop b) ≤ insTotal bs := by
            have : insTotal bs = insTotal (bs.take b) + insTotal (bs.drop b) := by
              unfold insTotal
              rw [← List.sum_append, ← List.map_append, List.take_append_drop]
            omega
          have := (gE_gok hE).tot
          omega
        · have : rd_T36 bs (b : Int) = z36 := by
            unfold rd_T36
            rw [Int.toNat_natCast, List.getD_eq_getElem?_getD, List.getElem?_eq_none (by omega)]
            rfl
          rw [this]
          exact Nat.zero_le _
      have := ways_go (xs := xs) (sites := sites) (picks := picks) h hS hI hr hT hC (row_len bs h.T h.ne (by omega)) hp picks.length 0 (List.replicate bs.length false) 0 false K' (by omega) ⟨by simp, h.ord.ne, by rw [h.ord.zero]; exact hS.zero, fun x hx hne => by
        rcases anc_iff.1 hx with rfl | ⟨h0, _⟩
        · exact absurd rfl hne
        · exact absurd h0 (Nat.lt_irrefl 0)⟩ (by omega)
      rw [h.ord.zero] at this
      exact this
    · rw [if_neg hE, fl_alive K (by omega)]
      rfl
end Go.Proofs.Ytjmeignhhheckaa.H

/- Part 4 of the proof: contracts of the functions that are reached, and the plain law. -/
import Derived.Test.YtjmeignhhheckaaXc
import Init
import Derived.ScopeJumps
import Derived.WalkMore
set_option linter.unusedVariables false
set_option linter.unusedSimpArgs false
namespace Go.Proofs.YtjmeignhhheckaaW.PrintWords
open Go.RowKit
theorem below_weaken {w0 w w1 : World} {B : Nat} (h : Below w0.heap.size w0 w) (hB : w0.heap.size ≤ B) (k : Below B w w1) : Below w0.heap.size w0 w1 :=
  h.trans ⟨k.os, k.tape, k.output, k.size, fun i hi => k.block i (Nat.lt_of_lt_of_le hi hB)⟩
end Go.Proofs.YtjmeignhhheckaaW.PrintWords
namespace Go.Proofs.Ytjmeignhhheckaa.H
open Go.RowKit Go.Maps Go.Proofs.YtjmeignhhheckaaW.PrintWords Go.Proofs.YtjmeignhhheckaaW.PrintLast Go.Proofs.Ytjmeignhhheckaa.Q
set_option maxRecDepth 100000
structure TFr (w : World) (G : Array Value) (ins : List (List Nat)) (vs : List Value) (rows : List (List Int)) (tv : Value) (todo : List Int) (wr : World) : Prop where
  b : Below w.heap.size w wr
  c0 : wr.heap[w.heap.size]? = some (.cells G 25 (0, 0))
  si : SR wr (w.heap.size + 1) ins
  fr : FR wr w.heap.size (w.heap.size + 2) vs rows
  td : RI wr w.heap.size tv todo
  ap : ∀ i, i < rows.length → ∀ k, (vs.getD i undef).ownBlock = some k → tv.ownBlock ≠ some k
theorem SR.blk {w : World} {g : Nat} {xs : List (List Nat)} (h : SR w g xs) : ∃ C, w.heap[g]? = some (.cells C 98 (0, 0)) := by
  obtain ⟨C, hC, _⟩ := h.cells
  exact ⟨C, hC⟩
theorem TFr.below {w : World} {G : Array Value} {ins : List (List Nat)} {vs : List Value} {rows : List (List Int)} {tv : Value} {todo : List Int} {wr wr' : World} (h : TFr w G ins vs rows tv todo wr) (hb : Below wr.heap.size wr wr') : TFr w G ins vs rows tv todo wr' := by
  obtain ⟨C, hC⟩ := h.si.blk
  exact ⟨below_step h.b hb, blk_below h.c0 hb, h.si.below hb (blk_lt hC), h.fr.below hb, h.td.below hb, h.ap⟩
theorem TFr.drew {w : World} {G : Array Value} {ins : List (List Nat)} {vs : List Value} {rows : List (List Int)} {tv : Value} {todo : List Int} {wr : World} (h : TFr w G ins vs rows tv todo wr) : TFr w G ins vs rows tv todo wr.drew := h.below (pw_below_drewN (Below.refl _ wr) 1)
theorem TFr.alloc {w : World} {G : Array Value} {ins : List (List Nat)} {vs : List Value} {rows : List (List Int)} {tv : Value} {todo : List Int} {wr : World} (h : TFr w G ins vs rows tv todo wr) (o : Obj) : TFr w G ins vs rows tv todo (wr.alloc o) := h.below ((Below.refl _ wr).alloc (Nat.le_refl _) o)
/-- a block of another type is no row's -/
theorem RI.ne {w : World} {base g t : Nat} {v : Value} {xs : List Int} {C : Array Value} (h : RI w base v xs) (hc : w.heap[g]? = some (.cells C t (0, 0))) (ht : t ≠ 3) : ∀ k, v.ownBlock = some k → k ≠ g := by
  intro k hk e
  subst e
  obtain ⟨cs, hcs⟩ := h.typed k hk
  rw [hc] at hcs
  injection hcs with e2
  injection e2 with _ e3 _
  exact ht e3
theorem RI.base {w : World} {base : Nat} {v : Value} {xs : List Int} (h : RI w base v xs) : ∀ k, v.ownBlock = some k → base ≤ k := Kd.R_base h
/-- todo has been appended to -/
theorem TFr.push {w : World} {G : Array Value} {ins : List (List Nat)} {vs : List Value} {rows : List (List Int)} {tv v1 : Value} {todo ys : List Int} {wr wr' : World} (h : TFr w G ins vs rows tv todo wr)
    (hR : RI wr' w.heap.size v1 ys) (hg : wr.grownBy wr' tv.ownBlock) (hat : v1.ownBlock = tv.ownBlock ∨ ∃ b, v1.ownBlock = some b ∧ wr.heap.size ≤ b) : TFr w G ins vs rows v1 ys wr' := by
  obtain ⟨C, hC⟩ := h.si.blk
  refine ⟨h.b.grown hg h.b.size (fun k hk => h.td.base k hk), blk_grown h.c0 hg (fun e => h.td.ne h.c0 (by decide) _ e.symm rfl), h.si.grown hg (fun e => h.td.ne hC (by decide) _ e.symm rfl),
    h.fr.apart hg (fun e => h.td.ne h.fr.blk (by decide) _ e rfl) (fun i hi k hk => h.ap i hi k hk), hR, fun i hi k hk => ?_⟩
  rcases hat with hat | ⟨b, hat, hb⟩
  · rw [hat]; exact h.ap i hi k hk
  · rw [hat]
    intro e
    have := (h.fr.row i hi).lt k hk
    have := Option.some.inj e
    omega
/-- a row has been appended to, and stored -/
theorem TFr.row {w : World} {G : Array Value} {ins : List (List Nat)} {vs : List Value} {rows : List (List Int)} {tv v1 : Value} {todo ys : List Int} {wr wr' : World} {i : Nat} (h : TFr w G ins vs rows tv todo wr) (hi : i < rows.length)
    (hR : RI wr' w.heap.size v1 ys) (hg : wr.grownBy wr' (vs.getD i undef).ownBlock) (hat : v1.ownBlock = (vs.getD i undef).ownBlock ∨ ∃ b, v1.ownBlock = some b ∧ wr.heap.size ≤ b) :
    TFr w G ins (vs.set i v1) (rows.set i ys) tv todo (wr'.setCell ⟨w.heap.size + 2, i, none⟩ v1) := by
  obtain ⟨C, hC⟩ := h.si.blk
  have hr := h.fr.row i hi
  have hf := h.fr.append hi hR hg hat
  have hs : wr'.grownBy (wr'.setCell ⟨w.heap.size + 2, i, none⟩ v1) (some (w.heap.size + 2)) := grown_put1 i v1
  have hblk2 : wr'.heap[w.heap.size + 2]? = some (.cells vs.toArray 37 (0, 0)) := blk_grown h.fr.blk hg (fun e => hr.ne h.fr.blk (by decide) _ e.symm rfl)
  refine ⟨(h.b.grown hg h.b.size (fun k hk => hr.base k hk)).grown hs (Nat.le_trans h.b.size hg.size) (fun k hk => by cases hk; omega),
    blk_grown (blk_grown h.c0 hg (fun e => hr.ne h.c0 (by decide) _ e.symm rfl)) hs (fun e => by have := Option.some.inj e; omega),
    (h.si.grown hg (fun e => hr.ne hC (by decide) _ e.symm rfl)).grown hs (fun e => by have := Option.some.inj e; omega), hf,
    (h.td.apart hg (fun k hk e => h.ap i hi k e hk)).other hblk2 (by decide) hs, fun j hj k hk => ?_⟩
  rw [List.length_set] at hj
  rw [getD_set_val (by rw [h.fr.len]; exact hi)] at hk
  split at hk
  · rcases hat with hat | ⟨b, hat, hb⟩
    · rw [hat] at hk; exact h.ap i hi k hk
    · rw [hat] at hk
      intro e
      have := h.td.lt k e
      have := Option.some.inj hk
      omega
  · exact h.ap j hj k hk
/-- a set has been stored -/
theorem TFr.put {w : World} {G : Array Value} {ins : List (List Nat)} {vs : List Value} {rows : List (List Int)} {tv : Value} {todo : List Int} {wr : World} (h : TFr w G ins vs rows tv todo wr) (i : Nat) (hi : i < ins.length) (x : List Nat) (hx : okW x) :
    TFr w G (ins.set i x) vs rows tv todo (wr.setCells (w.heap.size + 1) (16 * i) (x.map wv)) := by
  obtain ⟨C, hC⟩ := h.si.blk
  have hg : wr.grownBy (wr.setCells (w.heap.size + 1) (16 * i) (x.map wv)) (some (w.heap.size + 1)) := grown_puts _ _ _ _
  exact ⟨h.b.grown hg h.b.size (fun k hk => by cases hk; omega), blk_grown h.c0 hg (fun e => by have := Option.some.inj e; omega), h.si.set i hi x hx, h.fr.other hC (by decide) (by omega) hg, h.td.other hC (by decide) hg, h.ap⟩
theorem FR.cellOf {w : World} {base g : Nat} {vs : List Value} {rows : List (List Int)} (h : FR w base g vs rows) (i : Nat) (hi : i < rows.length) : w.cell? ⟨g, i, none⟩ = some (vs.getD i undef) ∧ w.frozen? ⟨g, i, none⟩ = false := by
  refine ⟨?_, blk_frozen h.blk i⟩
  rw [blk_cell h.blk]
  have : i < vs.length := by rw [h.len]; exact hi
  simp [this]
theorem FR.cellAfter {w w1 : World} {base g : Nat} {vs : List Value} {rows : List (List Int)} (h : FR w base g vs rows) (i : Nat) (hi : i < rows.length) (hg : w.grownBy w1 (vs.getD i undef).ownBlock) : w1.cell? ⟨g, i, none⟩ = some (vs.getD i undef) ∧ w1.frozen? ⟨g, i, none⟩ = false := by
  have hb := blk_grown h.blk hg (fun e => (h.row i hi).ne h.blk (by decide) _ e.symm rfl)
  refine ⟨?_, blk_frozen hb i⟩
  rw [blk_cell hb]
  have : i < vs.length := by rw [h.len]; exact hi
  simp [this]
theorem TFr.rowN {w : World} {G : Array Value} {ins : List (List Nat)} {vs : List Value} {rows : List (List Int)} {tv v1 nv : Value} {todo nl : List Int} {wr wr' : World} {i B : Nat} (h : TFr w G ins vs rows tv todo wr) (hi : i < rows.length)
    (hN : RI wr B nv nl) (hap : ∀ j, j < rows.length → ∀ k, (vs.getD j undef).ownBlock = some k → nv.ownBlock ≠ some k)
    (hg : wr.grownBy wr' (vs.getD i undef).ownBlock) (hat : v1.ownBlock = (vs.getD i undef).ownBlock ∨ ∃ b, v1.ownBlock = some b ∧ wr.heap.size ≤ b) :
    RI (wr'.setCell ⟨w.heap.size + 2, i, none⟩ v1) B nv nl ∧ ∀ j, j < rows.length → ∀ k, ((vs.set i v1).getD j undef).ownBlock = some k → nv.ownBlock ≠ some k := by
  have hblk2 : wr'.heap[w.heap.size + 2]? = some (.cells vs.toArray 37 (0, 0)) := blk_grown h.fr.blk hg (fun e => (h.fr.row i hi).ne h.fr.blk (by decide) _ e.symm rfl)
  refine ⟨(hN.apart hg (fun k hk e => hap i hi k e hk)).other hblk2 (by decide) (grown_put1 i v1), fun j hj k hk => ?_⟩
  rw [getD_set_val (by rw [h.fr.len]; exact hi)] at hk
  split at hk
  · rcases hat with hat | ⟨b, hat, hb⟩
    · rw [hat] at hk; exact hap i hi k hk
    · rw [hat] at hk
      intro e
      have := hN.lt k e
      have := Option.some.inj hk
      omega
  · exact hap j hj k hk
theorem wpStill_load {P : Program} {ops : Array Oper} {w : World} {Q : Act → Prop} {a : Act} {o : Oper} {rest : List Oper} (hgd : o.guard = none) (ty : TypeId) (x : Operand) (ho : o.op = .load ty x) (p v : Value) (hx : a.eval x = p)
    (hrun : (Instr.loadAt ty p).run P w = .ok v w) (h : wpStill P ops w Q rest (a.put o.dst v)) : wpStill P ops w Q (o :: rest) a := by
  refine wpStill_step (fun K hK => ?_)
  simp only [Region.wanted, hgd, if_true]
  unfold Oper.still execOp
  simp only [ho, hx, Sem.run_bind, Sem.run_pure, hrun, Result.andThen_ok]
  exact ⟨rfl, hK _ h⟩
theorem frmGo_snoc : ∀ (xs : List S36) (x : S36) (n : Nat) (f : List (List Int)), frmGo (xs ++ [x]) n f = (nexts x).foldl (frmStep (n + xs.length)) (frmGo xs n f)
  | [], x, n, f => rfl
  | y :: r, x, n, f => by
    rw [List.cons_append, frmGo, frmGo_snoc r x (n + 1), frmGo, List.length_cons, show n + 1 + r.length = n + (r.length + 1) from by omega]
set_option maxHeartbeats 4000000 in
theorem sets_any (A0 A2 : Option Addr) (c0 c2 : Nat) (a1 : Int) (l0 : List Bool) (bs : List S36) (w : World) (hC : Kd.C k36 w A2 bs.length bs) (hc : bs.length ≤ c2) (hn : bs.length ≤ 5000) (hb : ∀ x ∈ bs, blkOk bs.length x) :
    Calls Try.prog 57 #[.agg #[.slice A0 l0.length c0, .int .i64 a1, .slice A2 bs.length c2]] w fun e w' => e = .returned (.slice (some ⟨w.heap.size + 1, 0, none⟩) bs.length bs.length) ∧ SR w' (w.heap.size + 1) (setsS bs) ∧ Below w.heap.size w w' := by
  have HC := Lib.hid hC
  have HB := Lib.hid hb
  clear hC hb
  have hm1 := make94 bs.length (by omega)
  have hm2 := make28 bs.length (by omega)
  have hm3 := make37 bs.length (by omega)
  have hu25 := Try.underlying25
  have hu36 := Try.underlying36
  have HF := Lib.hid (show TFr w #[.slice A0 l0.length c0, .int .i64 a1, .slice A2 bs.length c2] (List.replicate bs.length zeroW) (List.replicate bs.length (.slice none 0 0)) (List.replicate bs.length []) (.slice (some ⟨w.heap.size + 3, 0, none⟩) 0 bs.length) []
      ((((w.alloc (.cells #[.slice A0 l0.length c0, .int .i64 a1, .slice A2 bs.length c2] 25)).alloc (.cells (Array.replicate (bs.length * 16) (.int .u64 0)) 98)).alloc (.cells (Array.replicate bs.length (.slice none 0 0)) 37)).alloc (.cells (Array.replicate bs.length (.int .i64 0)) 3)) from by
    have e1 := blk_alloc (blk_alloc (blk_alloc (blk_new w (.cells #[.slice A0 l0.length c0, .int .i64 a1, .slice A2 bs.length c2] 25)) (.cells (Array.replicate (bs.length * 16) (.int .u64 0)) 98)) (.cells (Array.replicate bs.length (.slice none 0 0)) 37)) (.cells (Array.replicate bs.length (.int .i64 0)) 3)
    have e2 := blk_alloc (blk_alloc (blk_new (w.alloc (.cells #[.slice A0 l0.length c0, .int .i64 a1, .slice A2 bs.length c2] 25)) (.cells (Array.replicate (bs.length * 16) (.int .u64 0)) 98)) (.cells (Array.replicate bs.length (.slice none 0 0)) 37)) (.cells (Array.replicate bs.length (.int .i64 0)) 3)
    have e3 := blk_alloc (blk_new ((w.alloc (.cells #[.slice A0 l0.length c0, .int .i64 a1, .slice A2 bs.length c2] 25)).alloc (.cells (Array.replicate (bs.length * 16) (.int .u64 0)) 98)) (.cells (Array.replicate bs.length (.slice none 0 0)) 37)) (.cells (Array.replicate bs.length (.int .i64 0)) 3)
    have e4 := blk_new (((w.alloc (.cells #[.slice A0 l0.length c0, .int .i64 a1, .slice A2 bs.length c2] 25)).alloc (.cells (Array.replicate (bs.length * 16) (.int .u64 0)) 98)).alloc (.cells (Array.replicate bs.length (.slice none 0 0)) 37)) (.cells (Array.replicate bs.length (.int .i64 0)) 3)
    simp only [World.size_alloc] at e2 e3 e4
    refine ⟨below_alloc (below_alloc (below_alloc (below_alloc (Below.refl _ _) _) _) _) _, e1, SR.start e2, FR.start (by rw [show (List.replicate bs.length (Value.slice none 0 0)).toArray = Array.replicate bs.length (Value.slice none 0 0) from by simp]; exact e3), RI.start (by omega) (by omega) e4, fun i hi k hk => ?_⟩
    rw [List.length_replicate] at hi
    simp [List.getElem?_replicate, hi, Value.ownBlock] at hk)
  go_enter Try.func57, Try.ntmps57
  go_wp2_with fail
  clear hm1 hm2 hm3
  go_loopw [27, 5] (fun j tv wr => ∃ (m : Nat) (vs : List Value), m ≤ bs.length ∧ j = .int .i64 m ∧ TFr w #[.slice A0 l0.length c0, .int .i64 a1, .slice A2 bs.length c2] (List.replicate bs.length zeroW) vs (frmGo (bs.take m) 0 (List.replicate bs.length [])) tv ((List.range m).map fun i : Nat => (i : Int)) wr) (fun j _ _ => bs.length - (intOf j).toNat)
  case atStart => exact ⟨0, _, Nat.zero_le _, rfl, HF.out⟩
  case round =>
    clear HF
    obtain ⟨m, vs, hm, rfl, hF⟩ := hrel
    have HF := Lib.hid hF
    clear hF
    by_cases hlt : m < bs.length
    · obtain ⟨ad2, A3, c3, hA, b0, b1, b2, b3, b4, hc3, hC3⟩ := at_T36 (Kd.C_below HC.out HF.out.b) (m : Int) (by omega) (by omega)
      subst hA
      simp only [Int.toNat_natCast] at b0 b1 b2 b3 b4
      have HBK := Lib.hid (show blkOk bs.length (rd_T36 bs (m : Nat)) from HB.out (blkAt bs (m : Nat)) (blkAt_mem bs m hlt))
      have HTK := Lib.hid (show bs.take (m + 1) = bs.take m ++ [rd_T36 bs (m : Nat)] from by
        rw [List.take_succ_eq_append_getElem hlt]; simp [rd_T36, hlt])
      have HC3 := Lib.hid hC3
      have HLC := Lib.hid hc3
      clear hC3 hc3
      generalize rd_T36 bs (m : Int) = bk at *
      have HF0 := Lib.hid (HF.out.alloc (.cells #[.slice A3 bk.f0.length c3, .int .u8 bk.f1, .int .i64 bk.f2, .int .i64 bk.f3, .int .i64 bk.f4] 36))
      go_wp2_with (go_at_call 64; go_loud (refine (next_calls A3 c3 bk _ (Kd.C_below HC3.out ((Below.refl _ wr).alloc (Nat.le_refl _) _)) HLC.out).mono ?_; rintro e w1 ⟨v, rfl, hR1, hb1⟩; have HF1 := Lib.hid (HF0.out.below (by exact hb1)); have HN0 := Lib.hid hR1; have hsz := hb1.size; clear hb1 hR1 b0 b1 b2 b3 b4; obtain ⟨A5, c5, hv5, hc5, hC5⟩ := Kd.R_reads HN0.out; clear hC5; subst hv5))
      have hn2 := nexts_len bk
      have hap : ∀ i, i < (frmGo (bs.take m) 0 (List.replicate bs.length [])).length → ∀ k, (vs.getD i undef).ownBlock = some k → (Value.slice A5 (nexts bk).length c5).ownBlock ≠ some k := by
        intro i hi k hk e
        have h1 := (HF0.out.fr.row i hi).lt k hk
        have h2 := Kd.R_base HN0.out k e
        omega
      have HAP := Lib.hid hap
      have hwsz := HF.out.b.size
      clear hap HF0 HF
      generalize hB5 : (wr.alloc (.cells #[.slice A3 bk.f0.length c3, .int .u8 bk.f1, .int .i64 bk.f2, .int .i64 bk.f3, .int .i64 bk.f4] 36)).heap.size = B5 at *
      have hB5w : w.heap.size ≤ B5 := by rw [← hB5, World.size_alloc]; omega
      have hrl : (frmGo (bs.take m) 0 (List.replicate bs.length [])).length = bs.length := by rw [frmGo_len, List.length_replicate]
      have HGS := Lib.hid (show frmGo (bs.take (m + 1)) 0 (List.replicate bs.length []) = (nexts bk).foldl (frmStep m) (frmGo (bs.take m) 0 (List.replicate bs.length [])) from by
        rw [HTK.out, frmGo_snoc, List.length_take, Nat.min_eq_left hm, Nat.zero_add])
      have HRT := Lib.hid (show ∀ t : Nat, ((frmGo (bs.take m) 0 (List.replicate bs.length [])).getD t []).length ≤ 5000 from fun t => by
        rw [frmGo_get t (bs.take m) 0 _ (fun x hx u hu => by rw [List.length_replicate]; exact (HB.out x (List.mem_of_mem_take hx)).nx u hu)]
        have h1 := fromRow_len t (bs.take m) 0
        rw [List.length_take] at h1
        have h2 : ((List.replicate bs.length ([] : List Int)).getD t []).length = 0 := by
          rw [List.getD_eq_getElem?_getD, List.getElem?_replicate]
          split <;> rfl
        rw [List.length_append, h2]
        omega)
      generalize frmGo (bs.take m) 0 (List.replicate bs.length []) = rows at *
      generalize hnv : nexts bk = nl at *
      go_loopw [35] (fun j wr => ∃ (q : Nat) (vs2 : List Value), q ≤ nl.length ∧ j = .int .i64 q ∧ TFr w #[.slice A0 l0.length c0, .int .i64 a1, .slice (some ad2) bs.length c2] (List.replicate bs.length zeroW) vs2 ((nl.take q).foldl (frmStep m) rows) u5 ((List.range m).map fun i : Nat => (i : Int)) wr ∧ RI wr B5 (.slice A5 nl.length c5) nl ∧ (∀ i, i < bs.length → ∀ k, (vs2.getD i undef).ownBlock = some k → (Value.slice A5 nl.length c5).ownBlock ≠ some k)) (fun j _ => nl.length - (intOf j).toNat)
      case atStart => exact ⟨0, _, Nat.zero_le _, rfl, HF1.out, HN0.out, by rw [← hrl]; exact HAP.out⟩
      case round =>
        clear HF1 HN0 HAP
        obtain ⟨q, vs2, hq, rfl, hF, hN, hAP⟩ := hrel
        have HF := Lib.hid hF
        have HN := Lib.hid hN
        have HAP := Lib.hid hAP
        clear hF hN hAP
        by_cases hlt2 : q < nl.length
        · obtain ⟨A6, c6, hv6, hc6, hC6⟩ := Kd.R_reads HN.out
          have hA6 : A6 = A5 := by injection hv6 with e; exact e.symm
          subst hA6
          obtain ⟨ad6, hA6, f0⟩ := Kd.at_int hC6 (q : Int) (by omega) (by omega)
          subst hA6
          simp only [Int.toNat_natCast] at f0
          clear hC6 hv6 hc6
          have HT := Lib.hid (show 0 ≤ rd nl q ∧ rd nl q < bs.length from HBK.out.nx _ (by rw [hnv]; unfold rd; exact getD_mem (by omega)))
          have HT1 := Lib.hid (take_snoc_int nl q hlt2)
          have HRD := Lib.hid (show nl.getD q 0 = rd nl q from rfl)
          generalize rd nl q = t at *
          obtain ⟨tn, rfl⟩ := Int.eq_ofNat_of_zero_le HT.out.1
          have htl : tn < bs.length := by have := HT.out.2; omega
          have HRL := Lib.hid (show ((nl.take q).foldl (frmStep m) rows).length = bs.length from by rw [frmFold_len]; exact hrl)
          have HFS := Lib.hid (show (nl.take (q + 1)).foldl (frmStep m) rows = ((nl.take q).foldl (frmStep m) rows).set tn (((nl.take q).foldl (frmStep m) rows).getD tn [] ++ [(m : Int)]) from by
            rw [HT1.out, List.foldl_append, HRD.out]; rfl)
          have HRL2 := Lib.hid (show (((nl.take q).foldl (frmStep m) rows).getD tn []).length ≤ 6000 from by
            rw [frmFold_get m tn (nl.take q) rows (fun u hu => by rw [hrl]; exact HBK.out.nx u (by rw [hnv]; exact List.mem_of_mem_take hu))]
            have h1 := HRT.out tn
            have h2 : (rowOf (nl.take q) m tn).length ≤ (nl.take q).length := by
              unfold rowOf
              rw [List.length_map]
              exact List.length_filter_le _ _
            rw [List.length_take] at h2
            rw [List.length_append]
            omega)
          generalize (nl.take q).foldl (frmStep m) rows = rw_ at *
          have hti : tn < rw_.length := by rw [HRL.out]; exact htl
          have hce := (HF.out.fr.cellOf tn hti).1
          have HE := Lib.hid (HF.out.fr.row tn hti)
          have HFA := HF
          have HNA := HN
          have HCA := Lib.hid (fun (w1 : World) => HFA.out.fr.cellAfter (w1 := w1) tn hti)
          have HRA := Lib.hid (fun (w1 : World) (v1 : Value) (ys : List Int) => HFA.out.row (wr' := w1) (v1 := v1) (ys := ys) hti)
          have HRN := Lib.hid (fun (w1 : World) (v1 : Value) => HFA.out.rowN (wr' := w1) (v1 := v1) hti HNA.out (by rw [HRL.out]; exact HAP.out))
          have hu28 := Try.underlying28
          have hu37 := Try.underlying37
          generalize vs2.getD tn undef = ev at *
          go_upto_region 10 with fail
          refine wp_region_lit ?_
          iterate 8 (refine wpList_plain rfl (fun K hK => ?_); go_simp; refine hK _ _ ?_; clear hK K)
          refine Kd.R_append (Kd.int .i64) (w0 := w) w.heap.size rfl (.tmp 44) (.tmp 46) 37 3 (.int .i64 0) 8 rfl Try.underlying37 infoS3 rfl (by decide) (by decide) ev (rw_.getD tn []) (m : Int) [.int .i64 m] (fun _ => True) (fun _ => False) rfl rfl ?aP (fun _ hk => hk.elim) ?aF ?aO ?aB ?aS ?aL ?_
          case aP => exact rfl
          case aB => exact HFA.out.b
          case aF => exact (fun _ _ => trivial)
          case aO => exact HE.out
          case aS => exact HFA.out.b.size
          case aL => have := HRL2.out; omega
          intro v1 w2 hR1 hb1 hg1 hat1
          obtain ⟨A8, c8, hv8, hc8, hC8⟩ := Kd.R_reads hR1
          clear hC8 hc8
          subst hv8
          obtain ⟨hc1, hf1⟩ := HCA.out w2 hg1
          have HF2 := Lib.hid (HRA.out w2 _ _ hR1 hg1 hat1)
          have HN2 := Lib.hid (HRN.out w2 _ hg1 hat1)
          clear hR1 hb1 hg1 hat1 hce f0
          generalize (rw_.getD tn [] ++ [(m : Int)]).length = L8 at *
          go_wp2
          go_roundw
          case rel =>
            refine ⟨q + 1, vs2.set tn (.slice A8 L8 c8), by omega, by go_num, ?_, HN2.out.1, ?_⟩
            · rw [HFS.out]
              exact HF2.out
            · have := HN2.out.2
              rwa [HRL.out] at this
          case measure => simp [intOf]; omega
        · have hqe : q = nl.length := by omega
          subst hqe
          rw [List.take_length] at HF
          clear HN HAP
          go_upto_region 12 with fail
          refine wp_region_lit ?_
          iterate 3 (refine wpList_plain rfl (fun K hK => ?_); go_simp; refine hK _ _ ?_; clear hK K)
          refine Kd.R_append (Kd.int .i64) (w0 := w) w.heap.size rfl (.tmp 50) (.tmp 52) 37 3 (.int .i64 0) 8 rfl Try.underlying37 infoS3 rfl (by decide) (by decide) u5 ((List.range m).map fun i : Nat => (i : Int)) (m : Int) [.int .i64 m] (fun _ => True) (fun _ => False) rfl rfl ?aP (fun _ hk => hk.elim) ?aF ?aO ?aB ?aS ?aL ?_
          case aP => exact rfl
          case aB => exact HF.out.b
          case aF => exact (fun _ _ => trivial)
          case aO => exact HF.out.td
          case aS => exact HF.out.b.size
          case aL => rw [List.length_map, List.length_range]; omega
          intro v1 w2 hR1 hb1 hg1 hat1
          have HF2 := Lib.hid (HF.out.push hR1 hg1 hat1)
          clear hR1 hb1 hg1 hat1
          have HRS := Lib.hid (show ((List.range (m + 1)).map fun i : Nat => (i : Int)) = ((List.range m).map fun i : Nat => (i : Int)) ++ [(m : Int)] from by rw [List.range_succ, List.map_append]; rfl)
          go_wp2
          go_roundw
          case rel =>
            refine ⟨m + 1, vs2, by omega, by go_num, ?_⟩
            rw [HGS.out, HRS.out]
            exact HF2.out
          case measure => simp [intOf]; omega
    · have : m = bs.length := by omega
      subst this
      rw [List.take_length] at HF
      have hsp := setsS_spec HB.out
      have HSP := Lib.hid hsp
      clear hsp
      have hst0 := setsInv_start HB.out
      have HIV := Lib.hid hst0
      clear hst0
      have hfl : (1024 * bs.length - bitsOf (List.replicate bs.length zeroW)) * (bs.length + 1) + ((List.range bs.length).map fun i : Nat => (i : Int)).reverse.length + 1 ≤ fuelS bs.length := by
        rw [List.length_reverse, List.length_map, List.length_range]
        have : (1024 * bs.length - bitsOf (List.replicate bs.length zeroW)) * (bs.length + 1) ≤ 1024 * bs.length * (bs.length + 1) := Nat.mul_le_mul_right _ (by omega)
        unfold fuelS
        omega
      have HFL := Lib.hid hfl
      clear hfl
      have hfu : fuelS bs.length ≤ 30000000000 := by
        have : 1024 * bs.length * (bs.length + 1) ≤ 1024 * 5000 * 5001 := Nat.mul_le_mul (Nat.mul_le_mul_left _ hn) (by omega)
        unfold fuelS
        omega
      generalize hst : ((List.range bs.length).map fun i : Nat => (i : Int)).reverse = st0 at *
      have HF2 := Lib.hid (show TFr w #[.slice A0 l0.length c0, .int .i64 a1, .slice A2 bs.length c2] (List.replicate bs.length zeroW) vs (frmOf bs) u5 st0.reverse wr from by
        rw [← hst, List.reverse_reverse]; exact HF.out)
      clear HF hst
      generalize List.replicate bs.length zeroW = ins0 at *
      obtain ⟨kf, hkf⟩ : ∃ kf, fuelS bs.length = kf + 1 := ⟨fuelS bs.length - 1, by unfold fuelS; omega⟩
      rw [hkf] at HSP HFL hfu
      go_wp2_with fail
      clear hu36
      go_loopg [5] kf (fun kq tv wr => ∃ (ins : List (List Nat)) (st : List Int), TFr w #[.slice A0 l0.length c0, .int .i64 a1, .slice A2 bs.length c2] ins vs (frmOf bs) tv st.reverse wr ∧ setsGo bs (frmOf bs) (kq + 1) ins st = some (setsS bs) ∧ SetsInv bs (frmOf bs) ins st ∧ (1024 * bs.length - bitsOf ins) * (bs.length + 1) + st.length + 1 ≤ kq + 1 ∧ kq ≤ kf)
      case atStart => exact ⟨_, st0, HF2.out, HSP.out.1, HIV.out, HFL.out, Nat.le_refl _⟩
      case round =>
        clear HF2 HIV HFL
        obtain ⟨ins, st, hF, hgo, hiv, hbd, hkk⟩ := hrel
        have HF := Lib.hid hF
        have HGO := Lib.hid hgo
        have HIV := Lib.hid hiv
        have HBD := Lib.hid hbd
        clear hF hgo hiv
        cases st with
        | nil =>
          have hgo := HGO.out
          simp only [setsGo, Option.some.injEq] at hgo
          have HE := Lib.hid hgo
          clear hgo
          obtain ⟨A, c, hv, hc5, hC5⟩ := Kd.R_reads HF.out.td
          simp only [List.reverse_nil, List.length_nil] at hv
          subst hv
          clear hC5
          go_wp2
          go_ret
          refine ⟨rfl, ?_, HF.out.b⟩
          rw [← HE.out]
          exact HF.out.si
        | cons b st =>
          have htd := HF.out.td
          rw [List.reverse_cons] at htd
          obtain ⟨A, c, hv, hc5, hC5⟩ := Kd.R_reads htd
          have hll : (st.reverse ++ [b]).length = st.length + 1 := by simp
          rw [hll] at hv hc5 hC5
          subst hv
          have hsl : st.length ≤ 30000000000 := by
            simp only [List.length_cons] at hbd
            omega
          obtain ⟨ad, hA, f0⟩ := Kd.at_int hC5 (st.length : Int) (by omega) (by omega)
          subst hA
          simp only [Int.toNat_natCast] at f0
          have hrd : rd (st.reverse ++ [b]) (st.length : Int) = b := by simp [rd]
          rw [hrd] at f0
          have HTD := Lib.hid htd
          clear hC5 htd hrd hbd
          have hbr := HIV.out.rng b (by simp)
          obtain ⟨n, rfl⟩ := Int.eq_ofNat_of_zero_le hbr.1
          have hnl : n < bs.length := by omega
          go_upto_region 17 with fail
          clear f0
          have hg2 : wr.cell? ⟨w.heap.size, 2, none⟩ = some (.slice A2 bs.length c2) := (blk_cell HF.out.c0 2).trans rfl
          obtain ⟨ad2, A3, c3, hA, b0, b1, b2, b3, b4, hc3, hC3⟩ := at_T36 (Kd.C_below HC.out HF.out.b) (n : Int) (by omega) (by omega)
          subst hA
          simp only [Int.toNat_natCast] at b0 b1 b2 b3 b4
          have HBK := Lib.hid (show blkOk bs.length (rd_T36 bs (n : Nat)) from HB.out (blkAt bs (n : Nat)) (blkAt_mem bs n hnl))
          obtain ⟨CS, hCS⟩ := HF.out.si.blk
          have hah := ahead_calls A3 c3 (rd_T36 bs (n : Nat)) 0 (w.heap.size + 1) ins.length ins wr hC3 hc3 HF.out.si (blk_lt hCS) (Nat.le_refl _) (by rw [HIV.out.ok.len]; exact HBK.out.nx) HBK.out.br HBK.out.rg (Nat.zero_le _)
          rw [HIV.out.ok.len, Int.natCast_zero] at hah
          have HAH := Lib.hid hah
          have HAE := Lib.hid (show aheadW (blkAt bs (n : Nat)) 0 ins = aheadW (rd_T36 bs (n : Nat)) 0 ins from rfl)
          clear hah hC3 hc3 hCS
          generalize aheadW (rd_T36 bs (n : Nat)) 0 ins = na at *
          generalize rd_T36 bs (n : Nat) = bk at *
          refine wp_region_lit ?_
          iterate 6 (refine wpList_plain rfl (fun K hK => ?_); go_simp; refine hK _ _ ?_; clear hK K)
          refine wpList_plain rfl (fun K hK => ?_)
          go_simp
          refine HAH.out.mono ?_
          rintro e w1 ⟨rfl, hok, hb1⟩
          have HOK := Lib.hid hok
          have HF1 := Lib.hid (HF.out.below hb1)
          have HTD1 := Lib.hid (HTD.out.below hb1)
          refine hK _ _ ?_
          clear hK K hb1 b0 b1 b2 b3 b4 hg2
          refine wpList_plain rfl (fun K hK => ?_)
          go_simp
          refine hK _ _ ?_
          clear hK K
          have HZ := Lib.hid (show SB (w1.alloc (.cells (zeroW.map wv).toArray 98)) w1.heap.size zeroW from blk_new w1 _)
          have h16 : (na.map wv).toArray.size = 16 := by simp [hok.1]
          refine wpList_store_mid rfl 98 (.tmp 11) (.tmp 75) rfl w1.heap.size 0 (na.map wv).toArray rfl rfl (by rw [h16]; exact HZ.out.there okW_zero) (by rw [size98]; simp [hok.1]) (by simp [wv, Value.oneCell']) ?_
          have HSN := Lib.hid (HZ.out.puts okW_zero hok)
          have HB3 := Lib.hid (((Below.refl _ w1).alloc (Nat.le_refl _) (.cells (zeroW.map wv).toArray 98)).grown (grown_puts w1.heap.size (na.map wv) 0 _) (by simp) (fun k hk => by cases hk; exact Nat.le_refl _))
          have HF3 := Lib.hid (HF1.out.below HB3.out)
          have HTD3 := Lib.hid (HTD1.out.below HB3.out)
          have hwe : ((na.map wv).toArray).toList = na.map wv := by simp
          go_upto_region 18 with fail
          have hz16 : (zeroW.map wv).toArray = #[.int .u64 0, .int .u64 0, .int .u64 0, .int .u64 0, .int .u64 0, .int .u64 0, .int .u64 0, .int .u64 0, .int .u64 0, .int .u64 0, .int .u64 0, .int .u64 0, .int .u64 0, .int .u64 0, .int .u64 0, .int .u64 0] := rfl
          rw [hz16] at HSN HF3 HTD3
          clear HZ HB3 HF1 HTD1 hz16 HF HTD hwe
          generalize (w1.alloc (.cells #[.int .u64 0, .int .u64 0, .int .u64 0, .int .u64 0, .int .u64 0, .int .u64 0, .int .u64 0, .int .u64 0, .int .u64 0, .int .u64 0, .int .u64 0, .int .u64 0, .int .u64 0, .int .u64 0, .int .u64 0, .int .u64 0] 98)).setCells w1.heap.size 0 (List.map wv na) = w3 at *
          generalize w1.heap.size = ga at *
          have hil : n < ins.length := by rw [HIV.out.ok.len]; exact hnl
          have hok2 := HIV.out.ok.at n hnl
          have hl1 := fun w' (h : SB w' ga na) => run_loadAt_mid (P := Try.prog) w' ga 0 98 (na.map wv) (.array 16 96) (fun j v hj => by rw [Nat.zero_add, blk_cell h]; simpa using hj) Try.underlying98 rfl (by rw [size98, List.length_map, hok.1])
          have hl2 := fun w' (h : SR w' (w.heap.size + 1) ins) => run_loadAt_mid (P := Try.prog) w' (w.heap.size + 1) (16 * n) 98 ((ins.getD n []).map wv) (.array 16 96) (h.range n hil) Try.underlying98 rfl (by rw [size98, List.length_map, hok2.1])
          have heq := fun w' => eq98 na (ins.getD n []) hok.1 hok2.1 w'
          have HHE := Lib.hid (show setsGo bs (frmOf bs) (gk + 1) ins ((n : Int) :: st) = (if na = ins.getD n [] then setsGo bs (frmOf bs) gk ins st else setsGo bs (frmOf bs) gk (ins.set n na) (((frmOf bs).getD n []).reverse ++ st)) from by rw [setsGo, HAE.out]; rfl)
          have HSM := Lib.hid (fun e : na = ins.getD n [] => HIV.out.same (by rw [HAE.out]; exact e))
          have HMO := Lib.hid (HIV.out.more HB.out (frmOf_ok HB.out))
          rw [HAE.out, Int.toNat_natCast] at HMO
          generalize hold : ins.getD n [] = old at *
          refine wp_region_still_lit (by kernel_rfl) (by kernel_rfl) ?_
          refine wpStill_load rfl 98 (.tmp 11) rfl _ _ rfl (hl1 _ HSN.out.drew) ?_
          iterate 3 still_step
          refine wpStill_load rfl 98 (.tmp 79) rfl (.pointer (some ⟨w.heap.size + 1, 16 * n, none⟩)) _ (by rw [Nat.mul_comm 16 n]; rfl) (hl2 _ HF3.out.drew.si) ?_
          clear hl1 hl2
          have HT4 := Lib.hid (show TFr w #[.slice A0 l0.length c0, .int .i64 a1, .slice (some ad2) bs.length c2] ins vs (frmOf bs) (.slice (some ad) st.length c) st.reverse w3 from by
            have ht := Kd.R_take HTD3.out (m := st.length) (by simp)
            rw [List.take_append_of_le_length (by simp), List.take_of_length_le (by simp)] at ht
            exact ⟨HF3.out.b, HF3.out.c0, HF3.out.si, HF3.out.fr, ht, HF3.out.ap⟩)
          have hgo := HGO.out
          rw [HHE.out] at hgo
          have HGO2 := Lib.hid hgo
          clear hgo HHE HGO HTD3 HF3
          obtain ⟨gq, rfl⟩ : ∃ gq, gk = gq + 1 := ⟨gk - 1, by have := HBD.out; simp only [List.length_cons] at this; omega⟩
          by_cases hne : na = old
          · have hde : decide (na = old) = true := decide_eq_true hne
            have HNE := Lib.hid hne
            clear hne
            still_step
            refine wpStill_nil ?_
            go_wp2
            go_roundg gq
            case measure => omega
            case rel =>
              have hgo := HGO2.out
              rw [if_pos HNE.out] at hgo
              exact ⟨ins, st, HT4.out.drew, hgo, HSM.out HNE.out, by have := HBD.out; simp only [List.length_cons] at this; omega, by omega⟩
          · have hde : decide (na = old) = false := decide_eq_false hne
            have HNE := Lib.hid hne
            clear hne
            still_step
            refine wpStill_nil ?_
            go_upto_region 19 with fail
            refine wp_region_lit ?_
            iterate 2 (refine wpList_plain rfl (fun K hK => ?_); go_simp; refine hK _ _ ?_; clear hK K)
            refine wpList_load_row rfl 98 (.tmp 11) rfl ga rfl 98 (na.map wv).toArray (0, 0) (.array 16 96) HSN.out.drew Try.underlying98 rfl (by rw [size98]; simp [hok.1]) ?_
            have hu94 := Try.underlying94
            refine wpList_plain rfl (fun K hK => ?_)
            go_simp
            refine hK _ _ ?_
            clear hK K
            have hth := HT4.out.drew.si.there n hil
            rw [Nat.mul_comm] at hth
            refine wpList_store_mid rfl 98 (.tmp 85) (.tmp 84) rfl (w.heap.size + 1) (n * 16) (na.map wv).toArray rfl rfl (by rw [h16]; exact hth) (by rw [size98]; simp [hok.1]) (by simp [wv, Value.oneCell']) ?_
            have HT5 := Lib.hid (HT4.out.drew.put n hil na hok)
            rw [Nat.mul_comm 16 n] at HT5
            clear HT4 HSN hth
            rw [show (na.map wv).toArray.toList = na.map wv from by simp]
            generalize w3.drew.setCells (w.heap.size + 1) (n * 16) (na.map wv) = w5 at *
            go_upto_region 20 with fail
            have hfl : (frmOf bs).length = bs.length := by unfold frmOf; rw [frmGo_len, List.length_replicate]
            have hnf : n < (frmOf bs).length := by rw [hfl]; exact hnl
            have hce := (HT5.out.fr.cellOf n hnf).1
            have HE := Lib.hid (HT5.out.fr.row n hnf)
            have hfn := (frmOf_ok HB.out).len n hnl
            obtain ⟨A9, c9, hv9, hc9, hC9⟩ := Kd.R_reads HE.out
            rw [hv9] at hce
            have HFR := Lib.hid (show (frmOf bs).getD n [] = (frmOf bs).getD n [] from rfl)
            generalize hrow : (frmOf bs).getD n [] = row at *
            have hu28 := Try.underlying28
            have hu37 := Try.underlying37
            refine wp_region_lit ?_
            iterate 5 (refine wpList_plain rfl (fun K hK => ?_); go_simp; refine hK _ _ ?_; clear hK K)
            refine Kd.R_append_row (Value.int .i64) (0 : Int) (h1 := fun _ => rfl) (w0 := w) w.heap.size rfl (.tmp 86) (.tmp 90) 37 3 (.int .i64 0) 8 rfl Try.underlying37 infoS3 rfl (by decide) (.slice (some ad) st.length c) st.reverse row A9 row.length c9 (fun _ => True) rfl rfl (fun _ _ => trivial) HT5.out.td hC9 HT5.out.b HT5.out.b.size ?_ ?_
            · rw [List.length_reverse]; omega
            · intro v1 w6 hR1 hb1 hg1 hat1
              have HT6 := Lib.hid (HT5.out.push hR1 hg1 hat1)
              clear hR1 hb1 hg1 hat1 hce
              go_wp2
              go_roundg gq
              case measure => omega
              case rel =>
                have hgo := HGO2.out
                rw [if_neg HNE.out] at hgo
                have hmo := HMO.out.1
                try rw [hrow] at hmo
                have hb := HBD.out
                have hbs := bits_set ins n na hil
                rw [hold] at hbs
                have hlt : cntW old < cntW na := by
                  have hup := HIV.out.up n hnl
                  rw [hold, HAE.out] at hup
                  exact cntW_lt hok2 hok hup (fun e => HNE.out e.symm)
                have hle := bits_le (ins.set n na)
                rw [List.length_set, HIV.out.ok.len] at hle
                have hmul : (1024 * bs.length - bitsOf (ins.set n na) + 1) * (bs.length + 1) ≤ (1024 * bs.length - bitsOf ins) * (bs.length + 1) := Nat.mul_le_mul_right _ (by omega)
                rw [Nat.add_mul] at hmul
                refine ⟨ins.set n na, row.reverse ++ st, ?_, hgo, hmo, ?_, by omega⟩
                · rw [List.reverse_append, List.reverse_reverse]
                  exact HT6.out
                · simp only [List.length_append, List.length_reverse, List.length_cons] at hb ⊢
                  omega
end Go.Proofs.Ytjmeignhhheckaa.H
namespace Go.Proofs.Ytjmeignhhheckaa.Q
open Go.RowKit Go.Proofs.YtjmeignhhheckaaW.PrintWords Go.Proofs.YtjmeignhhheckaaW.PrintLast Go.Proofs.YtjmeignhhheckaaW.PrintMore
attribute [local go_sem] max2_int min2_int max_two min_two max_three min_three max_four min_four   -- for this text's walks alone
set_option linter.unusedVariables false
set_option linter.unusedSimpArgs false
def flow_check.f (l0_0 : List Bool) (a0_1 : Int) (l0_2 : List (S36)) : Option (Int) := (ir_Check.f 65536 (([(⟨l0_0, a0_1, l0_2⟩ : S25)] : List (S25)))).bind fun bt129 => (if bt129.2.2.2 = 0 then (some 0) else (some 14))
set_option maxHeartbeats 8000000 in
set_option maxRecDepth 100000 in
theorem flow_check.calls (P0_0_ : Nat → Prop) (A0_0 : Option Addr) (c0_0 : Nat) (l0_0 : List Bool) (a0_1 : Int) (P0_2_ : Nat → Prop) (A0_2 : Option Addr) (c0_2 : Nat) (l0_2 : List (S36)) (r : Int) (w : World) (hs0_0 : Kd.V Kd.bool 4 w w.heap.size (fun k_ => P0_0_ k_) (.slice A0_0 l0_0.length c0_0) l0_0) (hs0_2 : Kd.V k36 36 w w.heap.size (fun k_ => P0_2_ k_) (.slice A0_2 l0_2.length c0_2) l0_2) (h : flow_check.f l0_0 a0_1 l0_2 = some r) :
    Calls Try.prog 84 #[.agg #[.slice A0_0 l0_0.length c0_0, .int .i64 a0_1, .slice A0_2 l0_2.length c0_2]] w fun e w' => e = .returned (.int .i64 r) ∧ Below w.heap.size w w' := by
  have hu25 := Try.underlying25
  have hu54 := Try.underlying54
  have hu41 := Try.underlying41
  have HO0_0 := Aside0.mk (show Kd.V Kd.bool 4 w w.heap.size (fun k_ => ((P0_0_ k_ ∨ P0_2_ k_) ∨ w.heap.size ≤ k_)) (.slice A0_0 l0_0.length c0_0) l0_0 from Kd.V_mono hs0_0 (fun k_ hk => .inl (.inl hk)))
  have HO0_2 := Aside0.mk (show Kd.V k36 36 w w.heap.size (fun k_ => ((P0_0_ k_ ∨ P0_2_ k_) ∨ w.heap.size ≤ k_)) (.slice A0_2 l0_2.length c0_2) l0_2 from Kd.V_mono hs0_2 (fun k_ hk => .inl (.inr hk)))
  have HB := Aside0.mk (Below.refl w.heap.size w)
  have H : ((ir_Check.f 65536 (([(⟨l0_0, a0_1, l0_2⟩ : S25)] : List (S25)))).bind fun bt129 => (if bt129.2.2.2 = 0 then (some 0) else (some 14))) = some r := h
  clear h
  obtain ⟨y126, hy126⟩ : ∃ y_ : List (S25), y_ = (([(⟨l0_0, a0_1, l0_2⟩ : S25)] : List (S25))) := ⟨_, rfl⟩
  replace H : ((ir_Check.f 65536 y126).bind fun bt129 => (if bt129.2.2.2 = 0 then (some 0) else (some 14))) = some r := by first | (rw [hy126]; with_reducible exact H) | (have H2_ := (Option.bind_some _ _).symm.trans H; rw [hy126]; with_reducible exact H2_) | (have H2_ := (Option.bind_some _ _).symm.trans H; with_reducible exact H2_) | with_reducible exact H | (rw [hy126]; exact H) | exact H
  have Ny126 := Aside0.mk hy126
  clear hy126
  replace H := Option.bind_eq_some_iff.mp H
  obtain ⟨⟨t129, t130, t131, t132⟩, A20, H⟩ := H
  replace H : (if t132 = 0 then (some 0) else (some 14)) = some r := H
  have A2 := Aside0.mk A20
  clear A20
  by_cases c3 : t132 = 0
  · rw [if_pos c3] at H
    have c3b0 : (t132 == 0) = true := beq_iff_eq.mpr c3
    have c3b1 : (t132 != 0) = false := bne_eq_false_iff_eq.mpr c3
    clear c3
    obtain rfl := Option.some.inj H
    go_enter Try.func84, Try.ntmps84
    go_wp2_with (first | ((with_reducible refine gate_dst (N := 1) rfl ?_); refine box_event ?hg (N := 1) ?hd (cs := #[.slice A0_0 l0_0.length c0_0, .int .i64 a0_1, .slice A0_2 l0_2.length c0_2]) (t := 25) ?hr ?_; (case hd => rfl); (case hg => rfl); (case hr => first | (go_simp; done) | (go_simp; rfl)); intro gb125 hg w4 hbox hb; have n0_ := Aside0.mk (Kd.V_below (Kd.V_elderB (by (with_reducible repeat (first | apply Kd.V_alloc | apply Kd.V_drewN | apply Kd.V_drew)); exact HO0_0.out) gb125 (Nat.le_of_eq hg.symm)) hb); have n1_ := Aside0.mk (Kd.V_below (Kd.V_elderB (by (with_reducible repeat (first | apply Kd.V_alloc | apply Kd.V_drewN | apply Kd.V_drew)); exact HO0_2.out) gb125 (Nat.le_of_eq hg.symm)) hb); have n2_ := Aside0.mk (below_step (by repeat (first | (with_reducible first | exact HB.out | apply below_alloc | apply pw_below_drewN | apply below_drew1) | exact HB.out)) hb); have n3_ := Aside0.mk (hbox); have n4_ := Aside0.mk ((by rw [hg]; exact (below_size (by repeat (first | (with_reducible first | exact HB.out | apply below_alloc | apply pw_below_drewN | apply below_drew1) | exact HB.out))) : w.heap.size ≤ gb125)); have n5_ := Aside0.mk ((by rw [hg]; exact (below_size (by repeat (first | (with_reducible first | exact HB.out | apply below_alloc | apply pw_below_drewN | apply below_drew1) | exact HB.out))) : w.heap.size ≤ gb125)); clear HO0_0; clear HO0_2; clear HB; have HO0_0 := n0_; have HO0_2 := n1_; have HB := n2_; have BK125 := n3_; have GW125 := n4_; have GE125 := n5_; clear n0_ n1_ n2_ n3_ n4_ n5_; clear hb hbox hg; have hcz5_0 : w4.cell? ⟨gb125, 0, none⟩ = some (.slice A0_0 l0_0.length c0_0) := (blk_cell BK125.out 0).trans rfl; have hcz5_1 : w4.cell? ⟨gb125, 1, none⟩ = some (.int .i64 a0_1) := (blk_cell BK125.out 1).trans rfl; have hcz5_2 : w4.cell? ⟨gb125, 2, none⟩ = some (.slice A0_2 l0_2.length c0_2) := (blk_cell BK125.out 2).trans rfl; have hfz5_0 := blk_frozen BK125.out 0; have hfz5_1 := blk_frozen BK125.out 1; have hfz5_2 := blk_frozen BK125.out 2) | ((with_reducible refine gate_dst (N := 8) rfl ?_); refine Kd.N_lit k25 _ 25 ?hg (N' := 8) ?hd (xs := ([(⟨l0_0, a0_1, l0_2⟩ : S25)] : List (S25))) (inner := [.slice A0_0 l0_0.length c0_0, .int .i64 a0_1, .slice A0_2 l0_2.length c0_2]) (ok := (fun k_ => ((P0_0_ k_ ∨ P0_2_ k_) ∨ w.heap.size ≤ k_) ∧ k_ ≠ gb125)) (okp := (fun k_ => ((P0_0_ k_ ∨ P0_2_ k_) ∨ w.heap.size ≤ k_) ∧ k_ ≠ gb125)) ?hr ?hp (fun _ hk => hk) ((show ∀ k_, w4.heap.size ≤ k_ → (fun k_ => ((P0_0_ k_ ∨ P0_2_ k_) ∨ w.heap.size ≤ k_) ∧ k_ ≠ gb125) k_ from fun k_ hk => ⟨(.inr (Nat.le_trans (below_size (by repeat (first | (with_reducible first | exact HB.out | apply below_alloc | apply pw_below_drewN | apply below_drew1 | refine below_set ?_ GE125.out) | exact HB.out))) hk)), Kd.freshB (g := gb125) (o := .cells #[.slice A0_0 l0_0.length c0_0, .int .i64 a0_1, .slice A0_2 l0_2.length c0_2] 25 (0, 0)) (by (with_reducible repeat (first | refine blk_drewN ?_ _ | refine blk_drew ?_ | refine blk_alloc ?_ _)); exact BK125.out) k_ hk⟩) _ (Nat.le_refl _)) (Below.refl _ _) (Nat.le_refl _) (by simp) ?_; (case hd => rfl); (case hg => rfl); (case hr => first | (go_simp; done) | (go_simp; rfl)); (case hp => exact (Reps.c3 (show Kd.FK k25 _ _ (⟨l0_0, a0_1, l0_2⟩ : S25) [.slice A0_0 l0_0.length c0_0, .int .i64 a0_1, .slice A0_2 l0_2.length c0_2] from (k25_mkF _ _ (⟨l0_0, a0_1, l0_2⟩ : S25) (Kd.V_reads' (Kd.V_mono (ok' := (fun k_ => ((P0_0_ k_ ∨ P0_2_ k_) ∨ w.heap.size ≤ k_) ∧ k_ ≠ gb125)) (HO0_0.out) (fun k_ hk => ⟨hk.1, hk.2⟩))).2.1 (Kd.V_F (Kd.V_mono (ok' := (fun k_ => ((P0_0_ k_ ∨ P0_2_ k_) ∨ w.heap.size ≤ k_) ∧ k_ ≠ gb125)) (HO0_0.out) (fun k_ hk => ⟨hk.1, hk.2⟩))) (Kd.V_reads' (Kd.V_mono (ok' := (fun k_ => ((P0_0_ k_ ∨ P0_2_ k_) ∨ w.heap.size ≤ k_) ∧ k_ ≠ gb125)) (HO0_2.out) (fun k_ hk => ⟨hk.1, hk.2⟩))).2.1 (Kd.V_F (Kd.V_mono (ok' := (fun k_ => ((P0_0_ k_ ∨ P0_2_ k_) ∨ w.heap.size ≤ k_) ∧ k_ ≠ gb125)) (HO0_2.out) (fun k_ hk => ⟨hk.1, hk.2⟩))))) (Reps.none _ _))); intro v127 w6 ho7 hb hg_ hnew_; clear hg_ hnew_; (first | rw [← Ny126.out] at ho7 | (simp only [Int.reduceToNat] at ho7; rw [← Ny126.out] at ho7)); have n0_ := Aside0.mk (Kd.V_elder' (by (with_reducible repeat (first | apply Kd.V_alloc | apply Kd.V_drewN | apply Kd.V_drew)); exact HO0_0.out) (Kd.N_base ho7) hb); have n1_ := Aside0.mk (Kd.V_elder' (by (with_reducible repeat (first | apply Kd.V_alloc | apply Kd.V_drewN | apply Kd.V_drew)); exact HO0_2.out) (Kd.N_base ho7) hb); have n2_ := Aside0.mk (Kd.N_lower ho7 (below_size (by repeat (first | (with_reducible first | exact HB.out | apply below_alloc | apply pw_below_drewN | apply below_drew1 | refine below_set ?_ GE125.out) | exact HB.out)))); have n3_ := Aside0.mk (blk_below (g := gb125) (o := .cells #[.slice A0_0 l0_0.length c0_0, .int .i64 a0_1, .slice A0_2 l0_2.length c0_2] 25 (0, 0)) (by (with_reducible repeat (first | refine blk_drewN ?_ _ | refine blk_drew ?_ | refine blk_alloc ?_ _)); exact BK125.out) hb); have n4_ := Aside0.mk (below_step (by repeat (first | (with_reducible first | exact HB.out | apply below_alloc | apply pw_below_drewN | apply below_drew1 | refine below_set ?_ GE125.out) | exact HB.out)) hb); clear HO0_0; clear HO0_2; clear BK125; clear HB; have HO0_0 := n0_; have HO0_2 := n1_; have HO128 := n2_; have BK125 := n3_; have HB := n4_; clear n0_ n1_ n2_ n3_ n4_; clear hb ho7; obtain ⟨Ao8, co8, eo8⟩ := Kd.N_slice HO128.out; subst eo8) | ((with_reducible refine gate_callee (f := 66) rfl ?_); refine goesL_ (some 10) rfl rfl Try.func66 (by kernel_rfl) rfl #[.agg #[.int .i64 65536, .slice Ao8 y126.length co8]] rfl (by (try simp only [List.map_toArray, List.map_cons, List.map_nil]); first | done | rfl | (simp only [List.length_drop, List.length_take]; rfl)) ?_; (with_reducible refine (ir_Check.calls 65536 _ _ y126 t129 t130 t131 t132 _ ?side1 ?side2 A2.out).mono ?_); (case side1 => repeat (first | exact (Kd.N_reads' HO128.out).2.2 | (with_reducible refine Kd.C_alloc ?_ _) | (with_reducible refine Kd.C_drewN ?_ _) | (with_reducible refine Kd.C_drew ?_))); (case side2 => exact (Kd.N_reads' HO128.out).2.1); rintro e w9 ⟨rfl, hb⟩; refine ⟨_, rfl, ?_⟩; have n0_ := Aside0.mk (Kd.V_below (by (with_reducible repeat (first | apply Kd.V_alloc | apply Kd.V_drewN | apply Kd.V_drew)); exact HO0_0.out) hb); have n1_ := Aside0.mk (Kd.V_below (by (with_reducible repeat (first | apply Kd.V_alloc | apply Kd.V_drewN | apply Kd.V_drew)); exact HO0_2.out) hb); have n2_ := Aside0.mk (Kd.N_below (by (with_reducible repeat (first | apply Kd.N_alloc | apply Kd.N_drewN | apply Kd.N_drew)); exact HO128.out) hb); have n3_ := Aside0.mk (blk_below (g := gb125) (o := .cells #[.slice A0_0 l0_0.length c0_0, .int .i64 a0_1, .slice A0_2 l0_2.length c0_2] 25 (0, 0)) (by (with_reducible repeat (first | refine blk_drewN ?_ _ | refine blk_drew ?_ | refine blk_alloc ?_ _)); exact BK125.out) hb); have n4_ := Aside0.mk (below_step (by repeat (first | (with_reducible first | exact HB.out | apply below_alloc | apply pw_below_drewN | apply below_drew1 | refine below_set ?_ GE125.out) | exact HB.out)) hb); clear HO0_0; clear HO0_2; clear HO128; clear BK125; clear HB; have HO0_0 := n0_; have HO0_2 := n1_; have HO128 := n2_; have BK125 := n3_; have HB := n4_; clear n0_ n1_ n2_ n3_ n4_; (try clear hb); (try clear hb2); (try clear hk); (try clear hi)) | ((with_reducible refine gate_dst (N := 4) rfl ?_); refine box_event ?hg (N := 4) ?hd (cs := #[.int .i64 0, .int .i64 0]) (t := 41) ?hr ?_; (case hd => rfl); (case hg => rfl); (case hr => first | (go_simp; done) | (go_simp; rfl)); intro gb133 hg w10 hbox hb; have n0_ := Aside0.mk (Kd.V_below (Kd.V_elderB (by (with_reducible repeat (first | apply Kd.V_alloc | apply Kd.V_drewN | apply Kd.V_drew)); exact HO0_0.out) gb133 (Nat.le_of_eq hg.symm)) hb); have n1_ := Aside0.mk (Kd.V_below (Kd.V_elderB (by (with_reducible repeat (first | apply Kd.V_alloc | apply Kd.V_drewN | apply Kd.V_drew)); exact HO0_2.out) gb133 (Nat.le_of_eq hg.symm)) hb); have n2_ := Aside0.mk (Kd.N_below (Kd.N_elderB (by (with_reducible repeat (first | apply Kd.N_alloc | apply Kd.N_drewN | apply Kd.N_drew)); exact HO128.out) gb133 (Nat.le_of_eq hg.symm)) hb); have n3_ := Aside0.mk (blk_below (g := gb125) (o := .cells #[.slice A0_0 l0_0.length c0_0, .int .i64 a0_1, .slice A0_2 l0_2.length c0_2] 25 (0, 0)) (by (with_reducible repeat (first | refine blk_drewN ?_ _ | refine blk_drew ?_ | refine blk_alloc ?_ _)); exact BK125.out) hb); have n4_ := Aside0.mk (below_step (by repeat (first | (with_reducible first | exact HB.out | apply below_alloc | apply pw_below_drewN | apply below_drew1 | refine below_set ?_ GE125.out) | exact HB.out)) hb); have n5_ := Aside0.mk (hbox); have n6_ := Aside0.mk ((by rw [hg]; exact (below_size (by repeat (first | (with_reducible first | exact HB.out | apply below_alloc | apply pw_below_drewN | apply below_drew1 | refine below_set ?_ GE125.out) | exact HB.out))) : w.heap.size ≤ gb133)); have n7_ := Aside0.mk ((by rw [hg]; exact (below_size (by repeat (first | (with_reducible first | exact HB.out | apply below_alloc | apply pw_below_drewN | apply below_drew1 | refine below_set ?_ GE125.out) | exact HB.out))) : w.heap.size ≤ gb133)); have n8_ := Aside0.mk ((by rw [hg]; exact Nat.ne_of_lt (blk_lt (g := gb125) (o := .cells #[.slice A0_0 l0_0.length c0_0, .int .i64 a0_1, .slice A0_2 l0_2.length c0_2] 25 (0, 0)) (by (with_reducible repeat (first | refine blk_drewN ?_ _ | refine blk_drew ?_ | refine blk_alloc ?_ _)); exact BK125.out)) : gb125 ≠ gb133)); have n9_ := Aside0.mk ((by rw [hg]; exact Nat.ne_of_gt (blk_lt (g := gb125) (o := .cells #[.slice A0_0 l0_0.length c0_0, .int .i64 a0_1, .slice A0_2 l0_2.length c0_2] 25 (0, 0)) (by (with_reducible repeat (first | refine blk_drewN ?_ _ | refine blk_drew ?_ | refine blk_alloc ?_ _)); exact BK125.out)) : gb133 ≠ gb125)); clear HO0_0; clear HO0_2; clear HO128; clear BK125; clear HB; have HO0_0 := n0_; have HO0_2 := n1_; have HO128 := n2_; have BK125 := n3_; have HB := n4_; have BK133 := n5_; have GW133 := n6_; have GE133 := n7_; have NB125_133 := n8_; have NB133_125 := n9_; clear n0_ n1_ n2_ n3_ n4_ n5_ n6_ n7_ n8_ n9_; clear hb hbox hg; have hnb11 := NB133_125.out; have hnc11 := NB125_133.out; have hcz12_0 : w10.cell? ⟨gb133, 0, none⟩ = some (.int .i64 0) := (blk_cell BK133.out 0).trans rfl; have hcz12_1 : w10.cell? ⟨gb133, 1, none⟩ = some (.int .i64 0) := (blk_cell BK133.out 1).trans rfl; have hfz12_0 := blk_frozen BK133.out 0; have hfz12_1 := blk_frozen BK133.out 1))
    go_ret
    exact ⟨by first | rfl | (simp [errW_none, errW_some] <;> rfl) | (simp [*, errW_none, errW_some] <;> rfl), by repeat (first | (with_reducible first | exact HB.out | apply below_alloc | apply pw_below_drewN | apply below_drew1 | refine below_set ?_ GE125.out | refine below_set ?_ GE133.out) | exact HB.out)⟩
  · rw [if_neg c3] at H
    have c3b0 : (t132 == 0) = false := beq_eq_false_iff_ne.mpr c3
    have c3b1 : (t132 != 0) = true := bne_iff_ne.mpr c3
    obtain rfl := Option.some.inj H
    go_enter Try.func84, Try.ntmps84
    go_wp2_with (first | ((with_reducible refine gate_dst (N := 1) rfl ?_); refine box_event ?hg (N := 1) ?hd (cs := #[.slice A0_0 l0_0.length c0_0, .int .i64 a0_1, .slice A0_2 l0_2.length c0_2]) (t := 25) ?hr ?_; (case hd => rfl); (case hg => rfl); (case hr => first | (go_simp; done) | (go_simp; rfl)); intro gb125 hg w13 hbox hb; have n0_ := Aside0.mk (Kd.V_below (Kd.V_elderB (by (with_reducible repeat (first | apply Kd.V_alloc | apply Kd.V_drewN | apply Kd.V_drew)); exact HO0_0.out) gb125 (Nat.le_of_eq hg.symm)) hb); have n1_ := Aside0.mk (Kd.V_below (Kd.V_elderB (by (with_reducible repeat (first | apply Kd.V_alloc | apply Kd.V_drewN | apply Kd.V_drew)); exact HO0_2.out) gb125 (Nat.le_of_eq hg.symm)) hb); have n2_ := Aside0.mk (below_step (by repeat (first | (with_reducible first | exact HB.out | apply below_alloc | apply pw_below_drewN | apply below_drew1) | exact HB.out)) hb); have n3_ := Aside0.mk (hbox); have n4_ := Aside0.mk ((by rw [hg]; exact (below_size (by repeat (first | (with_reducible first | exact HB.out | apply below_alloc | apply pw_below_drewN | apply below_drew1) | exact HB.out))) : w.heap.size ≤ gb125)); have n5_ := Aside0.mk ((by rw [hg]; exact (below_size (by repeat (first | (with_reducible first | exact HB.out | apply below_alloc | apply pw_below_drewN | apply below_drew1) | exact HB.out))) : w.heap.size ≤ gb125)); clear HO0_0; clear HO0_2; clear HB; have HO0_0 := n0_; have HO0_2 := n1_; have HB := n2_; have BK125 := n3_; have GW125 := n4_; have GE125 := n5_; clear n0_ n1_ n2_ n3_ n4_ n5_; clear hb hbox hg; have hcz14_0 : w13.cell? ⟨gb125, 0, none⟩ = some (.slice A0_0 l0_0.length c0_0) := (blk_cell BK125.out 0).trans rfl; have hcz14_1 : w13.cell? ⟨gb125, 1, none⟩ = some (.int .i64 a0_1) := (blk_cell BK125.out 1).trans rfl; have hcz14_2 : w13.cell? ⟨gb125, 2, none⟩ = some (.slice A0_2 l0_2.length c0_2) := (blk_cell BK125.out 2).trans rfl; have hfz14_0 := blk_frozen BK125.out 0; have hfz14_1 := blk_frozen BK125.out 1; have hfz14_2 := blk_frozen BK125.out 2) | ((with_reducible refine gate_dst (N := 8) rfl ?_); refine Kd.N_lit k25 _ 25 ?hg (N' := 8) ?hd (xs := ([(⟨l0_0, a0_1, l0_2⟩ : S25)] : List (S25))) (inner := [.slice A0_0 l0_0.length c0_0, .int .i64 a0_1, .slice A0_2 l0_2.length c0_2]) (ok := (fun k_ => ((P0_0_ k_ ∨ P0_2_ k_) ∨ w.heap.size ≤ k_) ∧ k_ ≠ gb125)) (okp := (fun k_ => ((P0_0_ k_ ∨ P0_2_ k_) ∨ w.heap.size ≤ k_) ∧ k_ ≠ gb125)) ?hr ?hp (fun _ hk => hk) ((show ∀ k_, w13.heap.size ≤ k_ → (fun k_ => ((P0_0_ k_ ∨ P0_2_ k_) ∨ w.heap.size ≤ k_) ∧ k_ ≠ gb125) k_ from fun k_ hk => ⟨(.inr (Nat.le_trans (below_size (by repeat (first | (with_reducible first | exact HB.out | apply below_alloc | apply pw_below_drewN | apply below_drew1 | refine below_set ?_ GE125.out) | exact HB.out))) hk)), Kd.freshB (g := gb125) (o := .cells #[.slice A0_0 l0_0.length c0_0, .int .i64 a0_1, .slice A0_2 l0_2.length c0_2] 25 (0, 0)) (by (with_reducible repeat (first | refine blk_drewN ?_ _ | refine blk_drew ?_ | refine blk_alloc ?_ _)); exact BK125.out) k_ hk⟩) _ (Nat.le_refl _)) (Below.refl _ _) (Nat.le_refl _) (by simp) ?_; (case hd => rfl); (case hg => rfl); (case hr => first | (go_simp; done) | (go_simp; rfl)); (case hp => exact (Reps.c3 (show Kd.FK k25 _ _ (⟨l0_0, a0_1, l0_2⟩ : S25) [.slice A0_0 l0_0.length c0_0, .int .i64 a0_1, .slice A0_2 l0_2.length c0_2] from (k25_mkF _ _ (⟨l0_0, a0_1, l0_2⟩ : S25) (Kd.V_reads' (Kd.V_mono (ok' := (fun k_ => ((P0_0_ k_ ∨ P0_2_ k_) ∨ w.heap.size ≤ k_) ∧ k_ ≠ gb125)) (HO0_0.out) (fun k_ hk => ⟨hk.1, hk.2⟩))).2.1 (Kd.V_F (Kd.V_mono (ok' := (fun k_ => ((P0_0_ k_ ∨ P0_2_ k_) ∨ w.heap.size ≤ k_) ∧ k_ ≠ gb125)) (HO0_0.out) (fun k_ hk => ⟨hk.1, hk.2⟩))) (Kd.V_reads' (Kd.V_mono (ok' := (fun k_ => ((P0_0_ k_ ∨ P0_2_ k_) ∨ w.heap.size ≤ k_) ∧ k_ ≠ gb125)) (HO0_2.out) (fun k_ hk => ⟨hk.1, hk.2⟩))).2.1 (Kd.V_F (Kd.V_mono (ok' := (fun k_ => ((P0_0_ k_ ∨ P0_2_ k_) ∨ w.heap.size ≤ k_) ∧ k_ ≠ gb125)) (HO0_2.out) (fun k_ hk => ⟨hk.1, hk.2⟩))))) (Reps.none _ _))); intro v127 w15 ho16 hb hg_ hnew_; clear hg_ hnew_; (first | rw [← Ny126.out] at ho16 | (simp only [Int.reduceToNat] at ho16; rw [← Ny126.out] at ho16)); have n0_ := Aside0.mk (Kd.V_elder' (by (with_reducible repeat (first | apply Kd.V_alloc | apply Kd.V_drewN | apply Kd.V_drew)); exact HO0_0.out) (Kd.N_base ho16) hb); have n1_ := Aside0.mk (Kd.V_elder' (by (with_reducible repeat (first | apply Kd.V_alloc | apply Kd.V_drewN | apply Kd.V_drew)); exact HO0_2.out) (Kd.N_base ho16) hb); have n2_ := Aside0.mk (Kd.N_lower ho16 (below_size (by repeat (first | (with_reducible first | exact HB.out | apply below_alloc | apply pw_below_drewN | apply below_drew1 | refine below_set ?_ GE125.out) | exact HB.out)))); have n3_ := Aside0.mk (blk_below (g := gb125) (o := .cells #[.slice A0_0 l0_0.length c0_0, .int .i64 a0_1, .slice A0_2 l0_2.length c0_2] 25 (0, 0)) (by (with_reducible repeat (first | refine blk_drewN ?_ _ | refine blk_drew ?_ | refine blk_alloc ?_ _)); exact BK125.out) hb); have n4_ := Aside0.mk (below_step (by repeat (first | (with_reducible first | exact HB.out | apply below_alloc | apply pw_below_drewN | apply below_drew1 | refine below_set ?_ GE125.out) | exact HB.out)) hb); clear HO0_0; clear HO0_2; clear BK125; clear HB; have HO0_0 := n0_; have HO0_2 := n1_; have HO128 := n2_; have BK125 := n3_; have HB := n4_; clear n0_ n1_ n2_ n3_ n4_; clear hb ho16; obtain ⟨Ao17, co17, eo17⟩ := Kd.N_slice HO128.out; subst eo17) | ((with_reducible refine gate_callee (f := 66) rfl ?_); refine goesL_ (some 10) rfl rfl Try.func66 (by kernel_rfl) rfl #[.agg #[.int .i64 65536, .slice Ao17 y126.length co17]] rfl (by (try simp only [List.map_toArray, List.map_cons, List.map_nil]); first | done | rfl | (simp only [List.length_drop, List.length_take]; rfl)) ?_; (with_reducible refine (ir_Check.calls 65536 _ _ y126 t129 t130 t131 t132 _ ?side1 ?side2 A2.out).mono ?_); (case side1 => repeat (first | exact (Kd.N_reads' HO128.out).2.2 | (with_reducible refine Kd.C_alloc ?_ _) | (with_reducible refine Kd.C_drewN ?_ _) | (with_reducible refine Kd.C_drew ?_))); (case side2 => exact (Kd.N_reads' HO128.out).2.1); rintro e w18 ⟨rfl, hb⟩; refine ⟨_, rfl, ?_⟩; have n0_ := Aside0.mk (Kd.V_below (by (with_reducible repeat (first | apply Kd.V_alloc | apply Kd.V_drewN | apply Kd.V_drew)); exact HO0_0.out) hb); have n1_ := Aside0.mk (Kd.V_below (by (with_reducible repeat (first | apply Kd.V_alloc | apply Kd.V_drewN | apply Kd.V_drew)); exact HO0_2.out) hb); have n2_ := Aside0.mk (Kd.N_below (by (with_reducible repeat (first | apply Kd.N_alloc | apply Kd.N_drewN | apply Kd.N_drew)); exact HO128.out) hb); have n3_ := Aside0.mk (blk_below (g := gb125) (o := .cells #[.slice A0_0 l0_0.length c0_0, .int .i64 a0_1, .slice A0_2 l0_2.length c0_2] 25 (0, 0)) (by (with_reducible repeat (first | refine blk_drewN ?_ _ | refine blk_drew ?_ | refine blk_alloc ?_ _)); exact BK125.out) hb); have n4_ := Aside0.mk (below_step (by repeat (first | (with_reducible first | exact HB.out | apply below_alloc | apply pw_below_drewN | apply below_drew1 | refine below_set ?_ GE125.out) | exact HB.out)) hb); clear HO0_0; clear HO0_2; clear HO128; clear BK125; clear HB; have HO0_0 := n0_; have HO0_2 := n1_; have HO128 := n2_; have BK125 := n3_; have HB := n4_; clear n0_ n1_ n2_ n3_ n4_; (try clear hb); (try clear hb2); (try clear hk); (try clear hi)) | ((with_reducible refine gate_dst (N := 4) rfl ?_); refine box_event ?hg (N := 4) ?hd (cs := #[.int .i64 0, .int .i64 0]) (t := 41) ?hr ?_; (case hd => rfl); (case hg => rfl); (case hr => first | (go_simp; done) | (go_simp; rfl)); intro gb133 hg w19 hbox hb; have n0_ := Aside0.mk (Kd.V_below (Kd.V_elderB (by (with_reducible repeat (first | apply Kd.V_alloc | apply Kd.V_drewN | apply Kd.V_drew)); exact HO0_0.out) gb133 (Nat.le_of_eq hg.symm)) hb); have n1_ := Aside0.mk (Kd.V_below (Kd.V_elderB (by (with_reducible repeat (first | apply Kd.V_alloc | apply Kd.V_drewN | apply Kd.V_drew)); exact HO0_2.out) gb133 (Nat.le_of_eq hg.symm)) hb); have n2_ := Aside0.mk (Kd.N_below (Kd.N_elderB (by (with_reducible repeat (first | apply Kd.N_alloc | apply Kd.N_drewN | apply Kd.N_drew)); exact HO128.out) gb133 (Nat.le_of_eq hg.symm)) hb); have n3_ := Aside0.mk (blk_below (g := gb125) (o := .cells #[.slice A0_0 l0_0.length c0_0, .int .i64 a0_1, .slice A0_2 l0_2.length c0_2] 25 (0, 0)) (by (with_reducible repeat (first | refine blk_drewN ?_ _ | refine blk_drew ?_ | refine blk_alloc ?_ _)); exact BK125.out) hb); have n4_ := Aside0.mk (below_step (by repeat (first | (with_reducible first | exact HB.out | apply below_alloc | apply pw_below_drewN | apply below_drew1 | refine below_set ?_ GE125.out) | exact HB.out)) hb); have n5_ := Aside0.mk (hbox); have n6_ := Aside0.mk ((by rw [hg]; exact (below_size (by repeat (first | (with_reducible first | exact HB.out | apply below_alloc | apply pw_below_drewN | apply below_drew1 | refine below_set ?_ GE125.out) | exact HB.out))) : w.heap.size ≤ gb133)); have n7_ := Aside0.mk ((by rw [hg]; exact (below_size (by repeat (first | (with_reducible first | exact HB.out | apply below_alloc | apply pw_below_drewN | apply below_drew1 | refine below_set ?_ GE125.out) | exact HB.out))) : w.heap.size ≤ gb133)); have n8_ := Aside0.mk ((by rw [hg]; exact Nat.ne_of_lt (blk_lt (g := gb125) (o := .cells #[.slice A0_0 l0_0.length c0_0, .int .i64 a0_1, .slice A0_2 l0_2.length c0_2] 25 (0, 0)) (by (with_reducible repeat (first | refine blk_drewN ?_ _ | refine blk_drew ?_ | refine blk_alloc ?_ _)); exact BK125.out)) : gb125 ≠ gb133)); have n9_ := Aside0.mk ((by rw [hg]; exact Nat.ne_of_gt (blk_lt (g := gb125) (o := .cells #[.slice A0_0 l0_0.length c0_0, .int .i64 a0_1, .slice A0_2 l0_2.length c0_2] 25 (0, 0)) (by (with_reducible repeat (first | refine blk_drewN ?_ _ | refine blk_drew ?_ | refine blk_alloc ?_ _)); exact BK125.out)) : gb133 ≠ gb125)); clear HO0_0; clear HO0_2; clear HO128; clear BK125; clear HB; have HO0_0 := n0_; have HO0_2 := n1_; have HO128 := n2_; have BK125 := n3_; have HB := n4_; have BK133 := n5_; have GW133 := n6_; have GE133 := n7_; have NB125_133 := n8_; have NB133_125 := n9_; clear n0_ n1_ n2_ n3_ n4_ n5_ n6_ n7_ n8_ n9_; clear hb hbox hg; have hnb20 := NB133_125.out; have hnc20 := NB125_133.out; have hcz21_0 : w19.cell? ⟨gb133, 0, none⟩ = some (.int .i64 0) := (blk_cell BK133.out 0).trans rfl; have hcz21_1 : w19.cell? ⟨gb133, 1, none⟩ = some (.int .i64 0) := (blk_cell BK133.out 1).trans rfl; have hfz21_0 := blk_frozen BK133.out 0; have hfz21_1 := blk_frozen BK133.out 1))
    go_ret
    exact ⟨by first | rfl | (simp [errW_none, errW_some] <;> rfl) | (simp [*, errW_none, errW_some] <;> rfl), by repeat (first | (with_reducible first | exact HB.out | apply below_alloc | apply pw_below_drewN | apply below_drew1 | refine below_set ?_ GE125.out | refine below_set ?_ GE133.out) | exact HB.out)⟩
end Go.Proofs.Ytjmeignhhheckaa.Q
namespace Go.Proofs.Ytjmeignhhheckaa.Q
open Go.RowKit Go.Proofs.YtjmeignhhheckaaW.PrintWords Go.Proofs.YtjmeignhhheckaaW.PrintLast Go.Proofs.YtjmeignhhheckaaW.PrintMore
attribute [local go_sem] max2_int min2_int max_two min_two max_three min_three max_four min_four   -- for this text's walks alone
set_option linter.unusedVariables false
set_option linter.unusedSimpArgs false
def flow_Reach.l0 : Nat → List Bool → List Int → Int → Int → Option (List Bool × Int)
  | 0, _, _, _, _ => none
  | k + 1, x5, x18, x19, x20 => if x20 < x19 then (if 0 ≤ x20 then (if x20 < (x18.length : Int) then (if 0 ≤ (rd x18 x20) then (if (rd x18 x20) < (x5.length : Int) then (flow_Reach.l0 k (x5.set ((rd x18 x20) : Int).toNat true) x18 x19 (wrap64 (x20 + 1))) else (none)) else (none)) else (none)) else (none)) else (some (x5, 0))
def flow_Reach.f (k : Nat) (l0_0 : List Bool) (a0_1 : Int) (l0_2 : List (S36)) : Option (List Bool × Int) := (flow_check.f l0_0 a0_1 l0_2).bind fun t135 => (if t135 = 0 then (if 0 ≤ (l0_2.length : Int) then (if ((l0_2.length : Int) : Int).toNat ≤ 281474976710656 then ((paths_Order.f l0_0 a0_1 l0_2).bind fun t139 => (flow_Reach.l0 k (List.replicate ((l0_2.length : Int) : Int).toNat false) t139 (t139.length : Int) 0)) else (none)) else (none)) else (some (([] : List Bool), t135)))
theorem flow_Reach.mono_l : ∀ k, (∀ y0 y1 y2 y3, LeO (flow_Reach.l0 k y0 y1 y2 y3) (flow_Reach.l0 (k + 1) y0 y1 y2 y3))
  | 0 => fun _ _ _ _ r h => by simp [flow_Reach.l0] at h
  | k + 1 => by
    have ih0 := flow_Reach.mono_l k
    · intro y0 y1 y2 y3
      unfold flow_Reach.l0
      repeat' first
      | (with_reducible exact ih0 _ _ _ _)
      | (with_reducible exact LeO.refl _)
      | (with_reducible exact LeO.none _)
      | (with_reducible refine LeO.ite ?_ ?_)
      | (with_reducible refine LeO.bind ?_ (fun _ => ?_))
      | exact ih0 _ _ _ _
      | exact LeO.none _
      | refine LeO.ite ?_ ?_
      | refine LeO.bind ?_ (fun _ => ?_)
theorem flow_Reach.mono : ∀ a0 a1 a2 k, LeO (flow_Reach.f k a0 a1 a2) (flow_Reach.f (k + 1) a0 a1 a2) := by
  intro a0 a1 a2 k
  have ih0 := flow_Reach.mono_l k
  unfold flow_Reach.f
  repeat' first
      | (with_reducible exact ih0 _ _ _ _)
      | (with_reducible exact LeO.refl _)
      | (with_reducible exact LeO.none _)
      | (with_reducible refine LeO.ite ?_ ?_)
      | (with_reducible refine LeO.bind ?_ (fun _ => ?_))
      | exact ih0 _ _ _ _
      | exact LeO.none _
      | refine LeO.ite ?_ ?_
      | refine LeO.bind ?_ (fun _ => ?_)
set_option maxHeartbeats 8000000 in
set_option maxRecDepth 100000 in
theorem flow_Reach.calls (k : Nat) (A0_0 : Option Addr) (c0_0 : Nat) (l0_0 : List Bool) (a0_1 : Int) (A0_2 : Option Addr) (c0_2 : Nat) (l0_2 : List (S36)) (r1 : List Bool) (r2 : Int) (w : World) (hr0_0 : Kd.C Kd.bool w A0_0 l0_0.length l0_0) (hc0_0 : l0_0.length ≤ c0_0) (hr0_2 : Kd.C k36 w A0_2 l0_2.length l0_2) (hc0_2 : l0_2.length ≤ c0_2) (h : flow_Reach.f k l0_0 a0_1 l0_2 = some (r1, r2)) :
    Calls Try.prog 49 #[.agg #[.slice A0_0 l0_0.length c0_0, .int .i64 a0_1, .slice A0_2 l0_2.length c0_2]] w fun e w' => ∃ v0_ : Value, e = .returned (.tuple #[v0_, .int .i64 r2]) ∧ Kd.R Kd.bool 4 w' w.heap.size (fun _ => True) v0_ r1 ∧ Below w.heap.size w w' := by
  have hu25 := Try.underlying25
  have HR0_0 := Aside0.mk hr0_0
  have HC0_0 := Aside0.mk hc0_0
  clear hr0_0 hc0_0
  have HR0_2 := Aside0.mk hr0_2
  have HC0_2 := Aside0.mk hc0_2
  clear hr0_2 hc0_2
  have HB := Aside0.mk (Below.refl w.heap.size w)
  have H : ((flow_check.f l0_0 a0_1 l0_2).bind fun t135 => (if t135 = 0 then (if 0 ≤ (l0_2.length : Int) then (if ((l0_2.length : Int) : Int).toNat ≤ 281474976710656 then ((paths_Order.f l0_0 a0_1 l0_2).bind fun t139 => (flow_Reach.l0 k (List.replicate ((l0_2.length : Int) : Int).toNat false) t139 (t139.length : Int) 0)) else (none)) else (none)) else (some (([] : List Bool), t135)))) = some (r1, r2) := h
  clear h
  replace H := Option.bind_eq_some_iff.mp H
  obtain ⟨t135, A20, H⟩ := H
  replace H : (if t135 = 0 then (if 0 ≤ (l0_2.length : Int) then (if ((l0_2.length : Int) : Int).toNat ≤ 281474976710656 then ((paths_Order.f l0_0 a0_1 l0_2).bind fun t139 => (flow_Reach.l0 k (List.replicate ((l0_2.length : Int) : Int).toNat false) t139 (t139.length : Int) 0)) else (none)) else (none)) else (some (([] : List Bool), t135))) = some (r1, r2) := H
  have A2 := Aside0.mk A20
  clear A20
  by_cases c3 : t135 = 0
  · rw [if_pos c3] at H
    have c3b0 : (t135 == 0) = true := beq_iff_eq.mpr c3
    have c3b1 : (t135 != 0) = false := bne_eq_false_iff_eq.mpr c3
    clear c3
    by_cases c4 : 0 ≤ (l0_2.length : Int)
    · rw [if_pos c4] at H
      have c4b0 := eq_true c4
      have c4b1 : decide (0 ≤ (l0_2.length : Int)) = true := decide_eq_true c4
      clear c4
      by_cases c5 : ((l0_2.length : Int) : Int).toNat ≤ 281474976710656
      · rw [if_pos c5] at H
        have c5b0 := eq_true c5
        have c5b1 : decide (((l0_2.length : Int) : Int).toNat ≤ 281474976710656) = true := decide_eq_true c5
        clear c5
        obtain ⟨y136, hy136⟩ : ∃ y_ : List Bool, y_ = (List.replicate ((l0_2.length : Int) : Int).toNat false) := ⟨_, rfl⟩
        replace H : ((paths_Order.f l0_0 a0_1 l0_2).bind fun t139 => (flow_Reach.l0 k y136 t139 (t139.length : Int) 0)) = some (r1, r2) := by first | (rw [hy136]; with_reducible exact H) | (have H2_ := (Option.bind_some _ _).symm.trans H; rw [hy136]; with_reducible exact H2_) | (have H2_ := (Option.bind_some _ _).symm.trans H; with_reducible exact H2_) | with_reducible exact H | (rw [hy136]; exact H) | exact H
        have Ny136 := Aside0.mk hy136
        clear hy136
        replace H := Option.bind_eq_some_iff.mp H
        obtain ⟨t139, A60, H⟩ := H
        replace H : (flow_Reach.l0 k y136 t139 (t139.length : Int) 0) = some (r1, r2) := H
        have A6 := Aside0.mk A60
        clear A60
        have H' := Aside0.mk H
        clear H
        go_enter Try.func49, Try.ntmps49
        go_wp2_with (first | ((with_reducible refine gate_dst (N := 1) rfl ?_); refine box_event ?hg (N := 1) ?hd (cs := #[.slice A0_0 l0_0.length c0_0, .int .i64 a0_1, .slice A0_2 l0_2.length c0_2]) (t := 25) ?hr ?_; (case hd => rfl); (case hg => rfl); (case hr => first | (go_simp; done) | (go_simp; rfl)); intro gb134 hg w7 hbox hb; have n0_ := Aside0.mk (below_step (by repeat (first | (with_reducible first | exact HB.out | apply below_alloc | apply pw_below_drewN | apply below_drew1) | exact HB.out)) hb); have n1_ := Aside0.mk (hbox); have n2_ := Aside0.mk ((by rw [hg]; exact (below_size (by repeat (first | (with_reducible first | exact HB.out | apply below_alloc | apply pw_below_drewN | apply below_drew1) | exact HB.out))) : w.heap.size ≤ gb134)); have n3_ := Aside0.mk ((by rw [hg]; exact (below_size (by repeat (first | (with_reducible first | exact HB.out | apply below_alloc | apply pw_below_drewN | apply below_drew1) | exact HB.out))) : w.heap.size ≤ gb134)); clear HB; have HB := n0_; have BK134 := n1_; have GW134 := n2_; have GE134 := n3_; clear n0_ n1_ n2_ n3_; clear hb hbox hg; have hcz8_0 : w7.cell? ⟨gb134, 0, none⟩ = some (.slice A0_0 l0_0.length c0_0) := (blk_cell BK134.out 0).trans rfl; have hcz8_1 : w7.cell? ⟨gb134, 1, none⟩ = some (.int .i64 a0_1) := (blk_cell BK134.out 1).trans rfl; have hcz8_2 : w7.cell? ⟨gb134, 2, none⟩ = some (.slice A0_2 l0_2.length c0_2) := (blk_cell BK134.out 2).trans rfl; have hfz8_0 := blk_frozen BK134.out 0; have hfz8_1 := blk_frozen BK134.out 1; have hfz8_2 := blk_frozen BK134.out 2) | ((with_reducible refine gate_callee (f := 84) rfl ?_); refine goesL_ (some 9) rfl rfl Try.func84 (by kernel_rfl) rfl #[.agg #[.slice A0_0 l0_0.length c0_0, .int .i64 a0_1, .slice A0_2 l0_2.length c0_2]] rfl (by (try simp only [List.map_toArray, List.map_cons, List.map_nil]); first | done | rfl | (simp only [List.length_drop, List.length_take]; rfl)) ?_; (with_reducible refine (flow_check.calls (fun k_ => k_ < w.heap.size) _ _ l0_0 a0_1 (fun k_ => k_ < w.heap.size) _ _ l0_2 t135 _ ?side1 ?side2 A2.out).mono ?_); (case side1 => exact Kd.V_mk HC0_0.out (Kd.F_below (Kd.C_F Kd.heap_bool HR0_0.out) (by repeat (first | (with_reducible first | exact HB.out | apply below_alloc | apply pw_below_drewN | apply below_drew1 | refine below_set ?_ GE134.out) | exact HB.out)))); (case side2 => exact Kd.V_mk HC0_2.out (Kd.F_below (Kd.C_F k36_heap HR0_2.out) (by repeat (first | (with_reducible first | exact HB.out | apply below_alloc | apply pw_below_drewN | apply below_drew1 | refine below_set ?_ GE134.out) | exact HB.out)))); rintro e w9 ⟨rfl, hb⟩; refine ⟨_, rfl, ?_⟩; have n0_ := Aside0.mk (blk_below (g := gb134) (o := .cells #[.slice A0_0 l0_0.length c0_0, .int .i64 a0_1, .slice A0_2 l0_2.length c0_2] 25 (0, 0)) (by (with_reducible repeat (first | refine blk_drewN ?_ _ | refine blk_drew ?_ | refine blk_alloc ?_ _)); exact BK134.out) hb); have n1_ := Aside0.mk (below_step (by repeat (first | (with_reducible first | exact HB.out | apply below_alloc | apply pw_below_drewN | apply below_drew1 | refine below_set ?_ GE134.out) | exact HB.out)) hb); clear BK134; clear HB; have BK134 := n0_; have HB := n1_; clear n0_ n1_; (try clear hb); (try clear hb2); (try clear hk); (try clear hi); have hcz10_0 : w9.cell? ⟨gb134, 0, none⟩ = some (.slice A0_0 l0_0.length c0_0) := (blk_cell BK134.out 0).trans rfl; have hcz10_1 : w9.cell? ⟨gb134, 1, none⟩ = some (.int .i64 a0_1) := (blk_cell BK134.out 1).trans rfl; have hcz10_2 : w9.cell? ⟨gb134, 2, none⟩ = some (.slice A0_2 l0_2.length c0_2) := (blk_cell BK134.out 2).trans rfl; have hfz10_0 := blk_frozen BK134.out 0; have hfz10_1 := blk_frozen BK134.out 1; have hfz10_2 := blk_frozen BK134.out 2) | ((with_reducible refine gate_dst (N := 16) rfl ?_); refine Kd.R_make Kd.bool _ 4 rfl (N := 16) rfl 22 _ _ rfl (l0_2.length : Int) rfl rfl Try.underlying22 (.bool false) 1 info4 rfl (by decide) (by omega) false (ok := fun _ => True) (okp := fun _ => True) rfl (fun _ hk => hk) trivial (of_decide_eq_true (by first | (with_reducible assumption) | assumption)) (Nat.le_trans (Nat.mul_le_mul_right _ (of_decide_eq_true (by first | (with_reducible assumption) | assumption) : (l0_2.length : Int).toNat ≤ 281474976710656)) (by omega)) (Below.refl _ _) (Nat.le_refl _) ?_; intro v137 w11 ho12 hb hg_ hnew_; clear hg_ hnew_; (first | rw [← Ny136.out] at ho12 | (simp only [Int.reduceToNat] at ho12; rw [← Ny136.out] at ho12)); have n0_ := Aside0.mk (Kd.R_lower ho12 (below_size (by repeat (first | (with_reducible first | exact HB.out | apply below_alloc | apply pw_below_drewN | apply below_drew1 | refine below_set ?_ GE134.out) | exact HB.out)))); have n1_ := Aside0.mk (blk_below (g := gb134) (o := .cells #[.slice A0_0 l0_0.length c0_0, .int .i64 a0_1, .slice A0_2 l0_2.length c0_2] 25 (0, 0)) (by (with_reducible repeat (first | refine blk_drewN ?_ _ | refine blk_drew ?_ | refine blk_alloc ?_ _)); exact BK134.out) hb); have n2_ := Aside0.mk (below_step (by repeat (first | (with_reducible first | exact HB.out | apply below_alloc | apply pw_below_drewN | apply below_drew1 | refine below_set ?_ GE134.out) | exact HB.out)) hb); clear BK134; clear HB; have HO138 := n0_; have BK134 := n1_; have HB := n2_; clear n0_ n1_ n2_; clear hb ho12; have hcz13_0 : w11.cell? ⟨gb134, 0, none⟩ = some (.slice A0_0 l0_0.length c0_0) := (blk_cell BK134.out 0).trans rfl; have hcz13_1 : w11.cell? ⟨gb134, 1, none⟩ = some (.int .i64 a0_1) := (blk_cell BK134.out 1).trans rfl; have hcz13_2 : w11.cell? ⟨gb134, 2, none⟩ = some (.slice A0_2 l0_2.length c0_2) := (blk_cell BK134.out 2).trans rfl; have hfz13_0 := blk_frozen BK134.out 0; have hfz13_1 := blk_frozen BK134.out 1; have hfz13_2 := blk_frozen BK134.out 2) | ((with_reducible refine gate_callee (f := 85) rfl ?_); refine goesL_ (some 18) rfl rfl Try.func85 (by kernel_rfl) rfl #[.agg #[.slice A0_0 l0_0.length c0_0, .int .i64 a0_1, .slice A0_2 l0_2.length c0_2]] rfl (by (try simp only [List.map_toArray, List.map_cons, List.map_nil]); first | done | rfl | (simp only [List.length_drop, List.length_take]; rfl)) ?_; (with_reducible refine (paths_Order.calls _ _ l0_0 a0_1 _ _ l0_2 t139 _ ?side1 ?side2 ?side3 ?side4 A6.out).mono ?_); (case side1 => repeat (first | exact (Kd.C_below HR0_0.out HB.out) | (with_reducible refine Kd.C_alloc ?_ _) | (with_reducible refine Kd.C_drewN ?_ _) | (with_reducible refine Kd.C_drew ?_))); (case side2 => exact HC0_0.out); (case side3 => repeat (first | exact (Kd.C_below HR0_2.out HB.out) | (with_reducible refine Kd.C_alloc ?_ _) | (with_reducible refine Kd.C_drewN ?_ _) | (with_reducible refine Kd.C_drew ?_))); (case side4 => exact HC0_2.out); rintro e w14 ⟨v140, rfl, ho0, hb⟩; refine ⟨_, rfl, ?_⟩; have n0_ := Aside0.mk (Kd.R_below (by (with_reducible repeat (first | apply Kd.R_alloc | apply Kd.R_drewN | apply Kd.R_drew)); exact HO138.out) hb); have n1_ := Aside0.mk (Kd.R_lower ho0 (below_size (by repeat (first | (with_reducible first | exact HB.out | apply below_alloc | apply pw_below_drewN | apply below_drew1 | refine below_set ?_ GE134.out) | exact HB.out)))); have n2_ := Aside0.mk (blk_below (g := gb134) (o := .cells #[.slice A0_0 l0_0.length c0_0, .int .i64 a0_1, .slice A0_2 l0_2.length c0_2] 25 (0, 0)) (by (with_reducible repeat (first | refine blk_drewN ?_ _ | refine blk_drew ?_ | refine blk_alloc ?_ _)); exact BK134.out) hb); have n3_ := Aside0.mk (below_step (by repeat (first | (with_reducible first | exact HB.out | apply below_alloc | apply pw_below_drewN | apply below_drew1 | refine below_set ?_ GE134.out) | exact HB.out)) hb); clear HO138; clear BK134; clear HB; have HO138 := n0_; have HO141 := n1_; have BK134 := n2_; have HB := n3_; clear n0_ n1_ n2_ n3_; (try clear hb); (try clear hb2); (try clear hk); (try clear hi); (try clear ho0); obtain ⟨Ao15, co15, eo15⟩ := Kd.R_slice HO141.out; subst eo15))
        go_loopg [20] k (fun kq v20 w' => ∃ (x5_1 : List Bool) (x20_1 : Int), v20 = .int .i64 x20_1 ∧ Aside0 (flow_Reach.l0 kq x5_1 t139 (t139.length : Int) x20_1 = some (r1, r2)) ∧ Aside0 (kq ≤ k) ∧ Aside0 (Kd.R Kd.bool 4 w' w.heap.size (fun _ => True) v137 x5_1) ∧ Aside0 (Kd.R (Kd.int .i64) 3 w' w.heap.size (fun _ => True) (.slice Ao15 t139.length co15) t139) ∧ Aside0 (w'.heap[gb134]? = some (.cells #[(.slice A0_0 l0_0.length c0_0), .int .i64 a0_1, (.slice A0_2 l0_2.length c0_2)] 25 (0, 0))) ∧ Aside0 (Below w.heap.size w w'))
        case atStart => exact ⟨(y136), (0), (by first | rfl | (simp; done) | (simp [*]; done)), H', ⟨Nat.le_refl _⟩, ⟨by (with_reducible repeat (first | apply Kd.R_alloc | apply Kd.R_drewN | apply Kd.R_drew)); exact HO138.out⟩, ⟨by (with_reducible repeat (first | apply Kd.R_alloc | apply Kd.R_drewN | apply Kd.R_drew)); exact HO141.out⟩, ⟨by (with_reducible repeat (first | refine blk_drewN ?_ _ | refine blk_drew ?_ | refine blk_alloc ?_ _)); exact BK134.out⟩, ⟨by repeat (first | (with_reducible first | exact HB.out | apply below_alloc | apply pw_below_drewN | apply below_drew1 | refine below_set ?_ GE134.out) | exact HB.out)⟩⟩
        case round =>
          clear H'
          try clear p2
          try clear c3
          try clear c3b0
          try clear c3b1
          try clear c4
          try clear c4b0
          try clear c4b1
          try clear c5
          try clear c5b0
          try clear c5b1
          try clear c8
          try clear hcz10_0
          try clear hcz10_1
          try clear hcz10_2
          try clear hcz13_0
          try clear hcz13_1
          try clear hcz13_2
          try clear hcz8_0
          try clear hcz8_1
          try clear hcz8_2
          try clear hfz10_0
          try clear hfz10_1
          try clear hfz10_2
          try clear hfz13_0
          try clear hfz13_1
          try clear hfz13_2
          try clear hfz8_0
          try clear hfz8_1
          try clear hfz8_2
          obtain ⟨x5_1, x20_1, rfl, HA, HK1, HO_5, HO_18, BK134, HB⟩ := hrel
          cases gk with
          | zero => exact absurd HA.out (by simp [flow_Reach.l0])
          | succ k1 =>
            have H := HA.out
            clear HA
            simp only [flow_Reach.l0] at H
            by_cases c16 : x20_1 < (t139.length : Int)
            · rw [if_pos c16] at H
              have c16b0 : decide (x20_1 < (t139.length : Int)) = true := decide_eq_true c16
              clear c16
              by_cases c17 : 0 ≤ x20_1
              · rw [if_pos c17] at H
                have c17b0 : decide (0 ≤ x20_1) = true := decide_eq_true c17
                clear c17
                by_cases c18 : x20_1 < (t139.length : Int)
                · rw [if_pos c18] at H
                  have c18b0 : decide (x20_1 < (t139.length : Int)) = true := decide_eq_true c18
                  clear c18
                  by_cases c19 : 0 ≤ (rd t139 x20_1)
                  · rw [if_pos c19] at H
                    have c19b0 : decide (0 ≤ (rd t139 x20_1)) = true := decide_eq_true c19
                    clear c19
                    by_cases c20 : (rd t139 x20_1) < (x5_1.length : Int)
                    · rw [if_pos c20] at H
                      have c20b0 : decide ((rd t139 x20_1) < (x5_1.length : Int)) = true := decide_eq_true c20
                      clear c20
                      obtain ⟨y143, hy143⟩ : ∃ y_ : List Bool, y_ = (x5_1.set ((rd t139 x20_1) : Int).toNat true) := ⟨_, rfl⟩
                      replace H : (flow_Reach.l0 k1 y143 t139 (t139.length : Int) (wrap64 (x20_1 + 1))) = some (r1, r2) := by first | (rw [hy143]; with_reducible exact H) | (have H2_ := (Option.bind_some _ _).symm.trans H; rw [hy143]; with_reducible exact H2_) | (have H2_ := (Option.bind_some _ _).symm.trans H; with_reducible exact H2_) | with_reducible exact H | (rw [hy143]; exact H) | exact H
                      have Ny143 := Aside0.mk hy143
                      clear hy143
                      have H' := Aside0.mk H
                      clear H
                      have p142 : 0 ≤ (x20_1 : Int) := of_decide_eq_true (by first | (with_reducible assumption) | assumption)
                      have q142 : x20_1 < (t139.length : Int) := of_decide_eq_true (by first | (with_reducible assumption) | assumption)
                      obtain ⟨ad142, e142, hx142_0⟩ := Kd.at_int (Kd.R_reads' HO_18.out).2.2 x20_1 p142 q142
                      cases e142
                      replace p142 := eq_true p142
                      replace q142 := eq_true q142
                      have p21 : 0 ≤ ((rd t139 x20_1) : Int) := of_decide_eq_true (by first | (with_reducible assumption) | assumption)
                      have q21 : ((rd t139 x20_1) : Int) < ((x5_1.length : Int) : Int) := of_decide_eq_true (by first | (with_reducible assumption) | assumption)
                      obtain ⟨go21, co21, eo21, gb21, gl21, cl21, HG21⟩ := Kd.R_form HO_5.out (by omega)
                      (first | cases eo21 | (injection eo21 with ea_ en_ ec_; (first | subst ea_ | (injection ea_ with ea_; subst ea_)); subst ec_; clear en_))
                      have GB21 := Aside0.mk gb21
                      have GG21 := Aside0.mk HG21
                      clear gb21 gl21 HG21
                      obtain ⟨hx21_0, hf21_0⟩ := Kd.R_celln false HO_5.out ((rd t139 x20_1) : Int) p21 q21
                      replace p21 := eq_true p21
                      replace q21 := eq_true q21
                      have HP22 := Kd.R_putg HO_5.out ((rd t139 x20_1) : Int) true
                      go_wp2_with (first | ((with_reducible refine gate_store (t := 4) (p := 26) rfl ?_); refine store_event (t := 4) (p := 26) (v := ?vo_w23) (w1 := (wr.setCell ⟨go21, ((rd t139 x20_1) : Int).toNat, none⟩ (.bool true))) ?hg ?ho ?hn ?hr ?_; (case ho => rfl); (case hg => rfl); (case hn => rfl); (case hr => first | (go_simp; done) | (go_simp; rfl)); intro w23 hw; have hg : wr.grownBy w23 (some go21) := (by rw [hw]; exact HP22.2); have hp_ : Kd.R Kd.bool 4 w23 w.heap.size (fun _ => True) (.slice (some ⟨go21, 0, none⟩) x5_1.length co21) y143 := (by rw [hw, Ny143.out]; exact HP22.1); clear HP22; have n0_ := Aside0.mk (hp_); have n1_ := Aside0.mk (Kd.R_over' (v := (.slice (some ⟨go21, 0, none⟩) x5_1.length co21)) (by (with_reducible repeat (first | apply Kd.R_alloc | apply Kd.R_drewN | apply Kd.R_drew)); exact HO_18.out) (Kd.R_typed HO_5.out) (by decide) hg); have n2_ := Aside0.mk (blk_grown (g := gb134) (o := .cells #[.slice A0_0 l0_0.length c0_0, .int .i64 a0_1, .slice A0_2 l0_2.length c0_2] 25 (0, 0)) (by (with_reducible repeat (first | refine blk_drewN ?_ _ | refine blk_drew ?_ | refine blk_alloc ?_ _)); exact BK134.out) hg (Kd.R_ne HO_5.out BK134.out (by decide))); have n3_ := Aside0.mk ((by rw [hw]; exact below_set (HB.out) GB21.out : Below w.heap.size w w23)); clear HO_5; clear HO_18; clear BK134; clear HB; have HO_5 := n0_; have HO_18 := n1_; have BK134 := n2_; have HB := n3_; clear n0_ n1_ n2_ n3_; clear hg hw hp_))
                      go_roundg k1
                      case measure => have := HK1.out; omega
                      case rel => exact ⟨(y143), (wrap64 (x20_1 + 1)), (by first | rfl | (simp; done) | (simp [*]; done)), H', ⟨by have := HK1.out; omega⟩, ⟨by (with_reducible repeat (first | apply Kd.R_alloc | apply Kd.R_drewN | apply Kd.R_drew)); exact HO_5.out⟩, ⟨by (with_reducible repeat (first | apply Kd.R_alloc | apply Kd.R_drewN | apply Kd.R_drew)); exact HO_18.out⟩, ⟨by (with_reducible repeat (first | refine blk_drewN ?_ _ | refine blk_drew ?_ | refine blk_alloc ?_ _)); exact BK134.out⟩, ⟨by repeat (first | (with_reducible first | exact HB.out | apply below_alloc | apply pw_below_drewN | apply below_drew1 | refine below_set ?_ GE134.out) | exact HB.out)⟩⟩
                    · rw [if_neg c20] at H
                      exact absurd H (by simp)
                  · rw [if_neg c19] at H
                    exact absurd H (by simp)
                · rw [if_neg c18] at H
                  exact absurd H (by simp)
              · rw [if_neg c17] at H
                exact absurd H (by simp)
            · rw [if_neg c16] at H
              have c16b0 : decide (x20_1 < (t139.length : Int)) = false := decide_eq_false c16
              clear c16
              simp only [Option.some.injEq, Prod.mk.injEq] at H
              obtain ⟨rfl, rfl⟩ := H
              go_wp2
              go_ret2
              exact ⟨_, by first | rfl | (simp [errW_none, errW_some] <;> rfl) | (simp [*, errW_none, errW_some] <;> rfl), by (with_reducible repeat (first | apply Kd.R_alloc | apply Kd.R_drewN | apply Kd.R_drew)); exact HO_5.out, by repeat (first | (with_reducible first | exact HB.out | apply below_alloc | apply pw_below_drewN | apply below_drew1 | refine below_set ?_ GE134.out) | exact HB.out)⟩
      · rw [if_neg c5] at H
        exact absurd H (by simp)
    · rw [if_neg c4] at H
      exact absurd H (by simp)
  · rw [if_neg c3] at H
    have c3b0 : (t135 == 0) = false := beq_eq_false_iff_ne.mpr c3
    have c3b1 : (t135 != 0) = true := bne_iff_ne.mpr c3
    simp only [Option.some.injEq, Prod.mk.injEq] at H
    obtain ⟨rfl, rfl⟩ := H
    go_enter Try.func49, Try.ntmps49
    go_wp2_with (first | ((with_reducible refine gate_dst (N := 1) rfl ?_); refine box_event ?hg (N := 1) ?hd (cs := #[.slice A0_0 l0_0.length c0_0, .int .i64 a0_1, .slice A0_2 l0_2.length c0_2]) (t := 25) ?hr ?_; (case hd => rfl); (case hg => rfl); (case hr => first | (go_simp; done) | (go_simp; rfl)); intro gb134 hg w24 hbox hb; have n0_ := Aside0.mk (below_step (by repeat (first | (with_reducible first | exact HB.out | apply below_alloc | apply pw_below_drewN | apply below_drew1) | exact HB.out)) hb); have n1_ := Aside0.mk (hbox); have n2_ := Aside0.mk ((by rw [hg]; exact (below_size (by repeat (first | (with_reducible first | exact HB.out | apply below_alloc | apply pw_below_drewN | apply below_drew1) | exact HB.out))) : w.heap.size ≤ gb134)); have n3_ := Aside0.mk ((by rw [hg]; exact (below_size (by repeat (first | (with_reducible first | exact HB.out | apply below_alloc | apply pw_below_drewN | apply below_drew1) | exact HB.out))) : w.heap.size ≤ gb134)); clear HB; have HB := n0_; have BK134 := n1_; have GW134 := n2_; have GE134 := n3_; clear n0_ n1_ n2_ n3_; clear hb hbox hg; have hcz25_0 : w24.cell? ⟨gb134, 0, none⟩ = some (.slice A0_0 l0_0.length c0_0) := (blk_cell BK134.out 0).trans rfl; have hcz25_1 : w24.cell? ⟨gb134, 1, none⟩ = some (.int .i64 a0_1) := (blk_cell BK134.out 1).trans rfl; have hcz25_2 : w24.cell? ⟨gb134, 2, none⟩ = some (.slice A0_2 l0_2.length c0_2) := (blk_cell BK134.out 2).trans rfl; have hfz25_0 := blk_frozen BK134.out 0; have hfz25_1 := blk_frozen BK134.out 1; have hfz25_2 := blk_frozen BK134.out 2) | ((with_reducible refine gate_callee (f := 84) rfl ?_); refine goesL_ (some 9) rfl rfl Try.func84 (by kernel_rfl) rfl #[.agg #[.slice A0_0 l0_0.length c0_0, .int .i64 a0_1, .slice A0_2 l0_2.length c0_2]] rfl (by (try simp only [List.map_toArray, List.map_cons, List.map_nil]); first | done | rfl | (simp only [List.length_drop, List.length_take]; rfl)) ?_; (with_reducible refine (flow_check.calls (fun k_ => k_ < w.heap.size) _ _ l0_0 a0_1 (fun k_ => k_ < w.heap.size) _ _ l0_2 t135 _ ?side1 ?side2 A2.out).mono ?_); (case side1 => exact Kd.V_mk HC0_0.out (Kd.F_below (Kd.C_F Kd.heap_bool HR0_0.out) (by repeat (first | (with_reducible first | exact HB.out | apply below_alloc | apply pw_below_drewN | apply below_drew1 | refine below_set ?_ GE134.out) | exact HB.out)))); (case side2 => exact Kd.V_mk HC0_2.out (Kd.F_below (Kd.C_F k36_heap HR0_2.out) (by repeat (first | (with_reducible first | exact HB.out | apply below_alloc | apply pw_below_drewN | apply below_drew1 | refine below_set ?_ GE134.out) | exact HB.out)))); rintro e w26 ⟨rfl, hb⟩; refine ⟨_, rfl, ?_⟩; have n0_ := Aside0.mk (blk_below (g := gb134) (o := .cells #[.slice A0_0 l0_0.length c0_0, .int .i64 a0_1, .slice A0_2 l0_2.length c0_2] 25 (0, 0)) (by (with_reducible repeat (first | refine blk_drewN ?_ _ | refine blk_drew ?_ | refine blk_alloc ?_ _)); exact BK134.out) hb); have n1_ := Aside0.mk (below_step (by repeat (first | (with_reducible first | exact HB.out | apply below_alloc | apply pw_below_drewN | apply below_drew1 | refine below_set ?_ GE134.out) | exact HB.out)) hb); clear BK134; clear HB; have BK134 := n0_; have HB := n1_; clear n0_ n1_; (try clear hb); (try clear hb2); (try clear hk); (try clear hi)))
    go_ret2
    exact ⟨_, by first | rfl | (simp [errW_none, errW_some] <;> rfl) | (simp [*, errW_none, errW_some] <;> rfl), by first | exact Kd.R_nil _ _ _ _ _ | exact Kd.N_nil _ _ _ _ _ | exact Kd.V_nil _ _ _ _ _ | exact Kd.Q_nil _ _ _ _ _ | exact Kd.S_nil _ _ _ _ _, by repeat (first | (with_reducible first | exact HB.out | apply below_alloc | apply pw_below_drewN | apply below_drew1 | refine below_set ?_ GE134.out) | exact HB.out)⟩
end Go.Proofs.Ytjmeignhhheckaa.Q
namespace Go.Proofs.Ytjmeignhhheckaa.Q
open Go.RowKit Go.Proofs.YtjmeignhhheckaaW.PrintWords Go.Proofs.YtjmeignhhheckaaW.PrintLast Go.Proofs.YtjmeignhhheckaaW.PrintMore
attribute [local go_sem] max2_int min2_int max_two min_two max_three min_three max_four min_four   -- for this text's walks alone
set_option linter.unusedVariables false
set_option linter.unusedSimpArgs false
def live_check.f (k : Nat) (l0_0 : List Bool) (a0_1 : Int) (l0_2 : List (S36)) : Option (Int) := (flow_Reach.f k l0_0 a0_1 l0_2).bind fun bt145 => (some bt145.2)
theorem live_check.mono : ∀ a0 a1 a2 k, LeO (live_check.f k a0 a1 a2) (live_check.f (k + 1) a0 a1 a2) := by
  intro a0 a1 a2 k
  unfold live_check.f
  repeat' first
      | (with_reducible exact flow_Reach.mono _ _ _ _)
      | (with_reducible exact LeO.refl _)
      | (with_reducible exact LeO.none _)
      | (with_reducible refine LeO.ite ?_ ?_)
      | (with_reducible refine LeO.bind ?_ (fun _ => ?_))
      | exact flow_Reach.mono _ _ _ _
      | exact LeO.none _
      | refine LeO.ite ?_ ?_
      | refine LeO.bind ?_ (fun _ => ?_)
set_option maxHeartbeats 8000000 in
set_option maxRecDepth 100000 in
theorem live_check.calls (k : Nat) (A0_0 : Option Addr) (c0_0 : Nat) (l0_0 : List Bool) (a0_1 : Int) (A0_2 : Option Addr) (c0_2 : Nat) (l0_2 : List (S36)) (r : Int) (w : World) (hr0_0 : Kd.C Kd.bool w A0_0 l0_0.length l0_0) (hc0_0 : l0_0.length ≤ c0_0) (hr0_2 : Kd.C k36 w A0_2 l0_2.length l0_2) (hc0_2 : l0_2.length ≤ c0_2) (h : live_check.f k l0_0 a0_1 l0_2 = some r) :
    Calls Try.prog 56 #[.agg #[.slice A0_0 l0_0.length c0_0, .int .i64 a0_1, .slice A0_2 l0_2.length c0_2]] w fun e w' => e = .returned (.int .i64 r) ∧ Below w.heap.size w w' := by
  have hu25 := Try.underlying25
  have HR0_0 := Aside0.mk hr0_0
  have HC0_0 := Aside0.mk hc0_0
  clear hr0_0 hc0_0
  have HR0_2 := Aside0.mk hr0_2
  have HC0_2 := Aside0.mk hc0_2
  clear hr0_2 hc0_2
  have HB := Aside0.mk (Below.refl w.heap.size w)
  have H : ((flow_Reach.f k l0_0 a0_1 l0_2).bind fun bt145 => (some bt145.2)) = some r := h
  clear h
  replace H := Option.bind_eq_some_iff.mp H
  obtain ⟨⟨t145, t148⟩, A20, H⟩ := H
  replace H : (some t148) = some r := H
  have A2 := Aside0.mk A20
  clear A20
  obtain rfl := Option.some.inj H
  go_enter Try.func56, Try.ntmps56
  go_wp2_with (first | ((with_reducible refine gate_dst (N := 1) rfl ?_); refine box_event ?hg (N := 1) ?hd (cs := #[.slice A0_0 l0_0.length c0_0, .int .i64 a0_1, .slice A0_2 l0_2.length c0_2]) (t := 25) ?hr ?_; (case hd => rfl); (case hg => rfl); (case hr => first | (go_simp; done) | (go_simp; rfl)); intro gb144 hg w3 hbox hb; have n0_ := Aside0.mk (below_step (by repeat (first | (with_reducible first | exact HB.out | apply below_alloc | apply pw_below_drewN | apply below_drew1) | exact HB.out)) hb); have n1_ := Aside0.mk (hbox); have n2_ := Aside0.mk ((by rw [hg]; exact (below_size (by repeat (first | (with_reducible first | exact HB.out | apply below_alloc | apply pw_below_drewN | apply below_drew1) | exact HB.out))) : w.heap.size ≤ gb144)); have n3_ := Aside0.mk ((by rw [hg]; exact (below_size (by repeat (first | (with_reducible first | exact HB.out | apply below_alloc | apply pw_below_drewN | apply below_drew1) | exact HB.out))) : w.heap.size ≤ gb144)); clear HB; have HB := n0_; have BK144 := n1_; have GW144 := n2_; have GE144 := n3_; clear n0_ n1_ n2_ n3_; clear hb hbox hg; have hcz4_0 : w3.cell? ⟨gb144, 0, none⟩ = some (.slice A0_0 l0_0.length c0_0) := (blk_cell BK144.out 0).trans rfl; have hcz4_1 : w3.cell? ⟨gb144, 1, none⟩ = some (.int .i64 a0_1) := (blk_cell BK144.out 1).trans rfl; have hcz4_2 : w3.cell? ⟨gb144, 2, none⟩ = some (.slice A0_2 l0_2.length c0_2) := (blk_cell BK144.out 2).trans rfl; have hfz4_0 := blk_frozen BK144.out 0; have hfz4_1 := blk_frozen BK144.out 1; have hfz4_2 := blk_frozen BK144.out 2) | ((with_reducible refine gate_callee (f := 49) rfl ?_); refine goesL_ (some 7) rfl rfl Try.func49 (by kernel_rfl) rfl #[.agg #[.slice A0_0 l0_0.length c0_0, .int .i64 a0_1, .slice A0_2 l0_2.length c0_2]] rfl (by (try simp only [List.map_toArray, List.map_cons, List.map_nil]); first | done | rfl | (simp only [List.length_drop, List.length_take]; rfl)) ?_; (with_reducible refine (flow_Reach.calls k _ _ l0_0 a0_1 _ _ l0_2 t145 t148 _ ?side1 ?side2 ?side3 ?side4 A2.out).mono ?_); (case side1 => repeat (first | exact (Kd.C_below HR0_0.out HB.out) | (with_reducible refine Kd.C_alloc ?_ _) | (with_reducible refine Kd.C_drewN ?_ _) | (with_reducible refine Kd.C_drew ?_))); (case side2 => exact HC0_0.out); (case side3 => repeat (first | exact (Kd.C_below HR0_2.out HB.out) | (with_reducible refine Kd.C_alloc ?_ _) | (with_reducible refine Kd.C_drewN ?_ _) | (with_reducible refine Kd.C_drew ?_))); (case side4 => exact HC0_2.out); rintro e w5 ⟨v146, rfl, ho0, hb⟩; refine ⟨_, rfl, ?_⟩; have n0_ := Aside0.mk (Kd.R_lower ho0 (below_size (by repeat (first | (with_reducible first | exact HB.out | apply below_alloc | apply pw_below_drewN | apply below_drew1 | refine below_set ?_ GE144.out) | exact HB.out)))); have n1_ := Aside0.mk (blk_below (g := gb144) (o := .cells #[.slice A0_0 l0_0.length c0_0, .int .i64 a0_1, .slice A0_2 l0_2.length c0_2] 25 (0, 0)) (by (with_reducible repeat (first | refine blk_drewN ?_ _ | refine blk_drew ?_ | refine blk_alloc ?_ _)); exact BK144.out) hb); have n2_ := Aside0.mk (below_step (by repeat (first | (with_reducible first | exact HB.out | apply below_alloc | apply pw_below_drewN | apply below_drew1 | refine below_set ?_ GE144.out) | exact HB.out)) hb); clear BK144; clear HB; have HO147 := n0_; have BK144 := n1_; have HB := n2_; clear n0_ n1_ n2_; (try clear hb); (try clear hb2); (try clear hk); (try clear hi); (try clear ho0)))
  go_ret
  exact ⟨by first | rfl | (simp [errW_none, errW_some] <;> rfl) | (simp [*, errW_none, errW_some] <;> rfl), by repeat (first | (with_reducible first | exact HB.out | apply below_alloc | apply pw_below_drewN | apply below_drew1 | refine below_set ?_ GE144.out) | exact HB.out)⟩
end Go.Proofs.Ytjmeignhhheckaa.Q
namespace Go.Proofs.Ytjmeignhhheckaa.H
open Go.RowKit Go.Maps Go.Proofs.YtjmeignhhheckaaW.PrintWords Go.Proofs.YtjmeignhhheckaaW.PrintLast Go.Proofs.Ytjmeignhhheckaa.Q
set_option maxRecDepth 100000
def regIn (n : Nat) (x : S46) : Prop := ((chgS x).2 = true → 0 ≤ (chgS x).1 ∧ (chgS x).1 < n) ∧ ∀ r ∈ asksS x, 0 ≤ r ∧ r < n
theorem isNum_in {xs : List Bool} {r : Int} (h : isNum xs r = true) : 0 ≤ r ∧ r < xs.length := by
  unfold isNum at h; rw [Bool.and_eq_true] at h; exact inN_iff h.1
theorem isRef_in {xs : List Bool} {r : Int} (h : isRef xs r = true) : 0 ≤ r ∧ r < xs.length := by
  unfold isRef at h; rw [Bool.and_eq_true] at h; exact inN_iff h.1
theorem mem3 {n : Nat} {a b c : Int} (ha : 0 ≤ a ∧ a < n) (hb : 0 ≤ b ∧ b < n) (hc : 0 ≤ c ∧ c < n) : ∀ r ∈ [a, b, c], 0 ≤ r ∧ r < n := by
  intro r hr
  simp only [List.mem_cons, List.not_mem_nil, or_false] at hr
  rcases hr with rfl | rfl | rfl
  · exact ha
  · exact hb
  · exact hc
theorem mem2 {n : Nat} {a b : Int} (ha : 0 ≤ a ∧ a < n) (hb : 0 ≤ b ∧ b < n) : ∀ r ∈ [a, b], 0 ≤ r ∧ r < n := by
  intro r hr
  simp only [List.mem_cons, List.not_mem_nil, or_false] at hr
  rcases hr with rfl | rfl
  · exact ha
  · exact hb
theorem mem1 {n : Nat} {a : Int} (ha : 0 ≤ a ∧ a < n) : ∀ r ∈ [a], 0 ≤ r ∧ r < n := by
  intro r hr
  simp only [List.mem_cons, List.not_mem_nil, or_false] at hr
  rcases hr with rfl
  exact ha
theorem mem0 {n : Nat} : ∀ r ∈ ([] : List Int), 0 ≤ r ∧ r < n := by
  intro r hr
  cases hr
theorem ins_regs {xs : List Bool} {sites words : Int} {met : List Int} {x : S46} (h : insB xs sites words met x = true) : regIn xs.length x := by
  unfold insB at h
  by_cases h00 : (emptyB (shp x.f0).1 || !zerosB x) = true
  · rw [if_pos h00] at h; cases h
  rw [if_neg h00] at h
  clear h00
  unfold regIn chgS asksS
  by_cases k1 : x.f0 = 1
  · simp only [k1, if_true, Bool.or_eq_true, Bool.and_eq_true] at h
    simp [k1]
    rcases h with h | h
    · exact isNum_in h
    · exact isRef_in h.1
  by_cases k2 : x.f0 = 2
  · simp [k2] at h
    simp [k2]
    rcases h with h | h
    · exact ⟨isNum_in h.1, isNum_in h.2⟩
    · exact ⟨isRef_in h.1, isRef_in h.2⟩
  by_cases k3 : x.f0 = 3
  · simp [k3] at h
    obtain ⟨⟨_, ha⟩, hb⟩ := h
    have hbc : (0 ≤ x.f3 ∧ x.f3 < xs.length) ∧ (0 ≤ x.f4 ∧ x.f4 < xs.length) := by
      rcases hb with h | h
      · exact ⟨isRef_in h.1.2, isRef_in h.2⟩
      · exact ⟨isNum_in h.1, isNum_in h.2⟩
    refine ⟨fun _ => by simpa [k3] using isNum_in ha, ?_⟩
    simp only [k3]
    exact mem2 hbc.1 hbc.2
  by_cases k4 : x.f0 = 4
  · simp [k4] at h
    simp [k4]
    exact isRef_in h
  by_cases k5 : x.f0 = 5
  · simp [k5] at h
    simp [k5]
    exact isNum_in h.1.1
  by_cases k6 : x.f0 = 6
  · simp [k6] at h
    simp [k6]
    exact isRef_in h.1.1
  by_cases k7 : x.f0 = 7
  · simp [k7] at h
    simp [k7]
    exact isRef_in h.1.1.1.1.1
  by_cases k12 : x.f0 = 12
  · simp [k12] at h
    simp [k12]
    exact isNum_in h
  by_cases k13 : x.f0 = 13
  · simp [k13]
  by_cases k14 : x.f0 = 14
  · simp [k14]
  simp only [k1, k2, k3, k4, k5, k6, k7, k12, k13, k14, if_false, Bool.and_eq_true, Bool.or_eq_true] at h
  obtain ⟨⟨⟨⟨ha, hb⟩, hc⟩, _⟩, _⟩ := h
  have ha := inN_iff ha
  have hb := isRef_in hb
  have hc : 0 ≤ x.f4 → 0 ≤ x.f4 ∧ x.f4 < xs.length := by
    intro h0
    rcases hc with h | h
    · have : x.f4 = -1 := by simpa using h
      omega
    · exact isNum_in h
  refine ⟨fun hh => ?_, ?_⟩
  · split at hh
    · rename_i h1
      rw [if_pos h1]
      exact ha
    · cases hh
  · simp only [k1, k2, k3, k4, k5, k6, k7, k12, k13, k14, if_false, false_or, or_false]
    split
    · split
      · rename_i h0
        exact mem2 hb (hc h0)
      · exact mem1 hb
    · split
      · split
        · rename_i h0
          exact mem3 ha hb (hc h0)
        · exact mem2 ha hb
      · exact mem0
theorem scan_regs {xs : List Bool} {sites words : Int} : ∀ (l : List S46) (k : Nat) (met m2 : List Int), insScan xs sites words l k met = .inr m2 → ∀ x ∈ l, regIn xs.length x := by
  intro l
  induction l with
  | nil => intro k met m2 _ x hx; cases hx
  | cons i l ih =>
    intro k met m2 h x hx
    simp only [insScan] at h
    by_cases hi : insB xs sites words met i = true
    · rw [if_pos hi] at h
      rcases List.mem_cons.1 hx with rfl | hx
      · exact ins_regs hi
      · exact ih _ _ _ h x hx
    · rw [if_neg hi] at h
      cases h
theorem blk_regs {xs : List Bool} {sites words : Int} {nb : Nat} : ∀ (bs : List S36) (n : Nat) (met : List Int), blkScan xs sites words nb bs n met = none → ∀ b ∈ bs, ∀ x ∈ b.f0, regIn xs.length x := by
  intro bs
  induction bs with
  | nil => intro n met _ b hb; cases hb
  | cons x bs ih =>
    intro n met h b hb
    cases hi : insScan xs sites words x.f0 0 met with
    | inl k => rw [blk_inl hi] at h; cases h
    | inr m2 =>
      rw [blk_last hi] at h
      cases hl : lastB xs nb x with
      | false => rw [hl] at h; simp at h
      | true =>
        rw [hl] at h
        rcases List.mem_cons.1 hb with rfl | hb
        · exact scan_regs _ _ _ _ hi
        · exact ih _ _ (by simpa using h) b hb
theorem last_reg {xs : List Bool} {nb : Nat} {b : S36} (h : lastB xs nb b = true) (h2 : b.f1 = 2) : 0 ≤ b.f2 ∧ b.f2 < xs.length := by
  unfold lastB at h
  simp [h2] at h
  exact isNum_in h.2
structure GOk (xs : List Bool) (bs : List S36) : Prop where
  nx : xs.length ≤ 1024
  ne : 0 < bs.length
  nb : bs.length ≤ 4096
  tot : insTotal bs ≤ 8192
  T : okT bs
  regs : ∀ b ∈ bs, ∀ x ∈ b.f0, regIn xs.length x
  br : ∀ b ∈ bs, b.f1 = 2 → 0 ≤ b.f2 ∧ b.f2 < xs.length
  la : ∀ b ∈ bs, lastB xs bs.length b = true
theorem gok {xs : List Bool} {sites words : Int} {bs : List S36} (h : (checkS words [⟨xs, sites, bs⟩]).2.2.2 = 0) : GOk xs bs := by
  unfold checkS at h
  split at h
  · cases h
  split at h
  · cases h
  unfold goS at h
  dsimp only at h
  by_cases hc : countsS xs sites bs = 0
  · rw [if_neg (by rw [hc]; decide)] at h
    by_cases hf : (faultS xs sites words bs).2.2 = true
    · rw [if_pos hf] at h
      cases h
    · have hb : blkScan xs sites words bs.length bs 0 [] = none := by
        cases hq : blkScan xs sites words bs.length bs 0 [] with
        | none => rfl
        | some p => rw [fault_some hq] at hf; exact absurd rfl hf
      have hcs : xs.length ≤ 1024 ∧ bs.length ≤ 4096 ∧ sites ≤ 8192 ∧ insTotal bs ≤ 8192 ∧ 0 < bs.length := by
        unfold countsS at hc
        by_cases h : 1024 < xs.length ∨ 4096 < bs.length ∨ 8192 < sites ∨ 8192 < insTotal bs
        · rw [if_pos h] at hc; cases hc
        · rw [if_neg h] at hc
          by_cases h2 : bs.length = 0 ∨ sites < 0
          · rw [if_pos h2] at hc; cases hc
          · omega
      have hl := blk_none bs 0 [] hb
      exact ⟨hcs.1, hcs.2.2.2.2, hcs.2.1, hcs.2.2.2.1, okT_of hb, blk_regs bs 0 [] hb, fun b hm h2 => last_reg (hl b hm) h2, hl⟩
  · rw [if_pos hc] at h
    exact absurd h hc
theorem GOk.blk {xs : List Bool} {bs : List S36} (h : GOk xs bs) : ∀ x ∈ bs, blkOk bs.length x := fun b hb =>
  ⟨h.T b hb, fun h2 => by have := h.br b hb h2; have := h.nx; omega, fun x hx => by
    have := h.regs b hb x hx
    have hn := h.nx
    exact ⟨fun hc => by have := this.1 hc; omega, fun r hr => by have := this.2 r hr; omega⟩⟩
/-- live's and flow's refusal -/
def gE (xs : List Bool) (sites : Int) (bs : List S36) : Int := if (checkS 65536 [⟨xs, sites, bs⟩]).2.2.2 = 0 then 0 else 14
theorem gE_gok {xs : List Bool} {sites : Int} {bs : List S36} (h : gE xs sites bs = 0) : GOk xs bs := by
  unfold gE at h
  by_cases hc : (checkS 65536 [⟨xs, sites, bs⟩]).2.2.2 = 0
  · exact gok hc
  · rw [if_neg hc] at h; cases h
theorem check_f (xs : List Bool) (sites : Int) (bs : List S36) (hs : smallG bs) : flow_check.f xs sites bs = some (gE xs sites bs) := by
  unfold flow_check.f ir_Check.f gE
  rw [if_pos (by intro g hg; rw [List.mem_singleton] at hg; rw [hg]; exact hs), Option.bind_some]
  split <;> rfl
theorem order_rng (bs : List S36) (hT : okT bs) : ∀ (k : Nat) (st : List S166) (met : List Bool) (out r : List Int), (∀ s ∈ st, 0 ≤ s.f0 ∧ s.f0 < bs.length ∧ 0 ≤ s.f1) → (∀ o ∈ out, 0 ≤ o ∧ o < bs.length) → orderGo bs k st met out = some r → (∀ o ∈ r, 0 ≤ o ∧ o < bs.length) ∧ r.length ≤ out.length + k := by
  intro k
  induction k with
  | zero =>
    intro st met out r hst ho h
    cases st with
    | nil => simp only [orderGo, Option.some.injEq] at h; subst h; exact ⟨ho, by omega⟩
    | cons s st => simp [orderGo] at h
  | succ k ih =>
    intro st met out r hst ho h
    cases st with
    | nil => simp only [orderGo, Option.some.injEq] at h; subst h; exact ⟨ho, by omega⟩
    | cons s st =>
      have hs := hst s (by simp)
      simp only [orderGo] at h
      split at h
      · rename_i hlt
        have hto := hT _ (getD_mem (d := z36) (by omega : s.f0.toNat < bs.length)) (rd (nexts (rd_T36 bs s.f0)) s.f1) (getD_mem (show s.f1.toNat < (nexts (rd_T36 bs s.f0)).length from by omega))
        split at h
        · have := ih _ _ _ _ (fun u hu => by
            rcases List.mem_cons.1 hu with rfl | hu
            · exact ⟨hs.1, hs.2.1, by dsimp only; omega⟩
            · exact hst u (by simp [hu])) ho h
          exact ⟨this.1, by omega⟩
        · have := ih _ _ _ _ (fun u hu => by
            rcases List.mem_cons.1 hu with rfl | hu
            · exact ⟨hto.1, hto.2, Int.le_refl _⟩
            · rcases List.mem_cons.1 hu with rfl | hu
              · exact ⟨hs.1, hs.2.1, by dsimp only; omega⟩
              · exact hst u (by simp [hu])) ho h
          exact ⟨this.1, by omega⟩
      · have := ih _ _ _ _ (fun u hu => hst u (by simp [hu])) (fun o h2 => by
          rcases List.mem_append.1 h2 with h2 | h2
          · exact ho o h2
          · rw [List.mem_singleton] at h2; subst h2; exact ⟨hs.1, hs.2.1⟩) h
        refine ⟨this.1, ?_⟩
        have h3 := this.2
        rw [List.length_append] at h3
        simp only [List.length_singleton] at h3
        omega
theorem orderS_rng (bs : List S36) (hT : okT bs) (hne : 0 < bs.length) : (∀ o ∈ orderS bs, 0 ≤ o ∧ o < bs.length) ∧ (orderS bs).length ≤ 4 * bs.length + 4 := by
  obtain ⟨r, hr, he⟩ := orderS_eq bs hT hne
  have := order_rng bs hT _ _ _ _ _ (by simp; omega) (by simp) hr
  rw [← he]
  exact ⟨fun o ho => this.1 o (by simpa using ho), by simpa using this.2⟩
def reachS (bs : List S36) : List Bool := (orderS bs).foldl (fun x o => x.set o.toNat true) (List.replicate bs.length false)
theorem reach_l0 (n : Nat) (ord : List Int) (ho : ∀ o ∈ ord, 0 ≤ o ∧ o < n) (hl : ord.length < 1000000) : ∀ (d k i : Nat) (x : List Bool), x.length = n → i + d = ord.length → d < k → flow_Reach.l0 k x ord (ord.length : Int) (i : Int) = some ((ord.drop i).foldl (fun x o => x.set o.toNat true) x, 0) := by
  intro d
  induction d with
  | zero =>
    intro k i x hx hi hk
    obtain ⟨k, rfl⟩ : ∃ m, k = m + 1 := ⟨k - 1, by omega⟩
    simp only [flow_Reach.l0]
    rw [if_neg (by omega), List.drop_of_length_le (by omega)]
    rfl
  | succ d ih =>
    intro k i x hx hi hk
    obtain ⟨k, rfl⟩ : ∃ m, k = m + 1 := ⟨k - 1, by omega⟩
    have hm := ho (rd ord (i : Int)) (by unfold rd; exact getD_mem (by omega))
    simp only [flow_Reach.l0]
    rw [if_pos (by omega), if_pos (by omega), if_pos (by omega), if_pos hm.1, if_pos (by omega)]
    rw [show Go.RowKit.wrap64 ((i : Int) + 1) = ((i + 1 : Nat) : Int) from by unfold Go.RowKit.wrap64; omega]
    rw [ih k (i + 1) _ (by simp [hx]) (by omega) (by omega)]
    rw [drop_at ord i 0 (by omega)]
    simp only [List.foldl_cons]
    rfl
theorem reach_f (xs : List Bool) (sites : Int) (bs : List S36) (hs : smallG bs) : ∃ k, flow_Reach.f k xs sites bs = some (if gE xs sites bs = 0 then reachS bs else [], gE xs sites bs) := by
  by_cases h : gE xs sites bs = 0
  · have G := gE_gok h
    have hr := orderS_rng bs G.T G.ne
    refine ⟨(orderS bs).length + 1, ?_⟩
    unfold flow_Reach.f
    rw [check_f xs sites bs hs, Option.bind_some, h, if_pos rfl, if_pos (by omega), if_pos (by have := G.nb; omega)]
    unfold paths_Order.f
    rw [if_pos ⟨G.ne, by have := G.nb; omega, G.T⟩, Option.bind_some]
    have := reach_l0 bs.length (orderS bs) hr.1 (by have := G.nb; omega) (orderS bs).length ((orderS bs).length + 1) 0 (List.replicate bs.length false) (by simp) (by omega) (by omega)
    rw [List.drop_zero] at this
    rw [if_pos rfl, Int.toNat_natCast]
    exact this
  · refine ⟨0, ?_⟩
    unfold flow_Reach.f
    rw [check_f xs sites bs hs, Option.bind_some, if_neg h, if_neg h]
theorem check_calls {A0 : Option Addr} {c0 : Nat} {l0 : List Bool} {a1 : Int} {A2 : Option Addr} {c2 : Nat} {l2 : List S36} {w : World} (h0 : Kd.C Kd.bool w A0 l0.length l0) (hc0 : l0.length ≤ c0) (h2 : Kd.C k36 w A2 l2.length l2) (hc2 : l2.length ≤ c2) (hs : smallG l2) :
    Calls Try.prog 56 #[.agg #[.slice A0 l0.length c0, .int .i64 a1, .slice A2 l2.length c2]] w fun e w' => e = .returned (.int .i64 (gE l0 a1 l2)) ∧ Below w.heap.size w w' := by
  obtain ⟨k, hk⟩ := reach_f l0 a1 l2 hs
  exact live_check.calls k A0 c0 l0 a1 A2 c2 l2 _ w h0 hc0 h2 hc2 (by unfold live_check.f; rw [hk]; rfl)
end Go.Proofs.Ytjmeignhhheckaa.H
namespace Go.Proofs.Ytjmeignhhheckaa.H
open Go.RowKit Go.Maps Go.Proofs.YtjmeignhhheckaaW.PrintWords Go.Proofs.YtjmeignhhheckaaW.PrintLast Go.Proofs.Ytjmeignhhheckaa.Q
set_option maxRecDepth 100000
def nxB (bs : List S36) (b : Int) : List Int := nexts (rd_T36 bs b)
def Linked (nx : Int → List Int) : List Int → Prop
  | [] => True
  | [s] => s = 0
  | s :: t :: r => s ∈ nx t ∧ Linked nx (t :: r)
structure OInv (nx : Int → List Int) (n : Nat) (st : List S166) (met : List Bool) (out : List Int) : Prop where
  ml : met.length = n
  rng : ∀ s ∈ st, 0 ≤ s.f0 ∧ s.f0 < n ∧ 0 ≤ s.f1
  orng : ∀ o ∈ out, 0 ≤ o ∧ o < n
  nd : (st.map (fun s => s.f0) ++ out).Nodup
  mt : ∀ b : Int, 0 ≤ b → b < n → (rdOf false met b = true ↔ b ∈ st.map (fun s => s.f0) ∨ b ∈ out)
  ln : Linked nx (st.map fun s => s.f0)
  par : ∀ l1 v l2, out = l1 ++ v :: l2 → (∃ p ∈ l2 ++ st.map (fun s => s.f0), v ∈ nx p) ∨ (v = 0 ∧ l2 = [] ∧ st = [])
  d1 : ∀ s ∈ st, ∀ i : Nat, (i : Int) < s.f1 → ∀ t, (nx s.f0)[i]? = some t → rdOf false met t = true
  d2 : ∀ o ∈ out, ∀ t ∈ nx o, rdOf false met t = true
  ne : st ≠ [] ∨ out ≠ []
theorem rdOf_set {met : List Bool} {n : Int} (h0 : 0 ≤ n) (h1 : n < met.length) {b : Int} (hb : 0 ≤ b) : rdOf false (met.set n.toNat true) b = if b = n then true else rdOf false met b := by
  unfold rdOf
  simp only [List.getD_eq_getElem?_getD]
  by_cases e : b = n
  · subst e
    rw [if_pos rfl, List.getElem?_set_self (by omega)]; rfl
  · rw [if_neg e, List.getElem?_set_ne (by omega)]
theorem rdOf_up {met : List Bool} {n : Nat} {b : Int} (h : rdOf false met b = true) : rdOf false (met.set n true) b = true := by
  unfold rdOf at *
  simp only [List.getD_eq_getElem?_getD] at *
  by_cases e : n = b.toNat
  · subst e
    by_cases hl : b.toNat < met.length
    · rw [List.getElem?_set_self hl]; rfl
    · rw [List.getElem?_eq_none (by omega)] at h; cases h
  · rw [List.getElem?_set_ne e]; exact h
theorem order_inv (bs : List S36) (hT : okT bs) : ∀ (k : Nat) (st : List S166) (met : List Bool) (out r : List Int), OInv (nxB bs) bs.length st met out → orderGo bs k st met out = some r → ∃ met', OInv (nxB bs) bs.length [] met' r := by
  intro k
  induction k with
  | zero =>
    intro st met out r h e
    cases st with
    | nil => simp only [orderGo, Option.some.injEq] at e; subst e; exact ⟨met, h⟩
    | cons s st => simp [orderGo] at e
  | succ k ih =>
    intro st met out r h e
    cases st with
    | nil => simp only [orderGo, Option.some.injEq] at e; subst e; exact ⟨met, h⟩
    | cons s st =>
      have hs := h.rng s (by simp)
      simp only [orderGo] at e
      by_cases hlt : s.f1 < (nexts (rd_T36 bs s.f0)).length
      · rw [if_pos hlt] at e
        have hget : (nxB bs s.f0)[s.f1.toNat]? = some (rd (nexts (rd_T36 bs s.f0)) s.f1) := by
          unfold nxB rd
          rw [List.getD_eq_getElem?_getD, List.getElem?_eq_getElem (by omega)]; rfl
        have hto := hT _ (getD_mem (d := z36) (by omega : s.f0.toNat < bs.length)) (rd (nexts (rd_T36 bs s.f0)) s.f1) (getD_mem (show s.f1.toNat < (nexts (rd_T36 bs s.f0)).length from by omega))
        have hmem : rd (nexts (rd_T36 bs s.f0)) s.f1 ∈ nxB bs s.f0 := List.mem_of_getElem? hget
        generalize rd (nexts (rd_T36 bs s.f0)) s.f1 = tt at *
        by_cases hq : rdOf false met tt = true
        · rw [if_pos hq] at e
          refine ih _ _ _ _ ⟨h.ml, ?_, h.orng, ?_, ?_, ?_, ?_, ?_, h.d2, .inl (by simp)⟩ e
          · intro u hu
            rcases List.mem_cons.1 hu with rfl | hu
            · exact ⟨hs.1, hs.2.1, by dsimp only; omega⟩
            · exact h.rng u (by simp [hu])
          · simpa using h.nd
          · intro b h0 h1; rw [h.mt b h0 h1]; simp
          · simpa using h.ln
          · intro l1 v l2 he
            rcases h.par l1 v l2 he with ⟨p, hp, hv⟩ | ⟨_, _, hn⟩
            · exact .inl ⟨p, by simpa using hp, hv⟩
            · cases hn
          · intro u hu i hi t ht
            rcases List.mem_cons.1 hu with rfl | hu
            · dsimp only at hi ht
              by_cases e2 : (i : Int) < s.f1
              · exact h.d1 s (by simp) i e2 t ht
              · have : i = s.f1.toNat := by omega
                subst this
                rw [hget] at ht
                obtain rfl := Option.some.inj ht
                exact hq
            · exact h.d1 u (by simp [hu]) i hi t ht
        · rw [if_neg hq] at e
          have hnm : ¬ (tt ∈ (s :: st).map (fun s => s.f0) ∨ tt ∈ out) := fun hh => hq ((h.mt tt hto.1 hto.2).2 hh)
          refine ih _ _ _ _ ⟨by rw [List.length_set]; exact h.ml, ?_, h.orng, ?_, ?_, ?_, ?_, ?_, ?_, .inl (by simp)⟩ e
          · intro u hu
            rcases List.mem_cons.1 hu with rfl | hu
            · exact ⟨hto.1, hto.2, Int.le_refl _⟩
            rcases List.mem_cons.1 hu with rfl | hu
            · exact ⟨hs.1, hs.2.1, by dsimp only; omega⟩
            · exact h.rng u (by simp [hu])
          · have := h.nd
            simp only [List.map_cons, List.cons_append] at this ⊢
            refine List.nodup_cons.2 ⟨fun hh => hnm ?_, this⟩
            simp only [List.mem_cons, List.mem_append] at hh
            simp only [List.map_cons, List.mem_cons]
            rcases hh with hh | hh | hh
            · exact .inl (.inl hh)
            · exact .inl (.inr hh)
            · exact .inr hh
          · intro b h0 h1
            rw [rdOf_set hto.1 (by rw [h.ml]; exact hto.2) h0]
            by_cases e2 : b = tt
            · simp [e2]
            · rw [if_neg e2, h.mt b h0 h1]; simp [e2]
          · have := h.ln
            simp only [List.map_cons] at this ⊢
            exact ⟨hmem, this⟩
          · intro l1 v l2 he
            rcases h.par l1 v l2 he with ⟨p, hp, hv⟩ | ⟨_, _, hn⟩
            · refine .inl ⟨p, ?_, hv⟩
              simp only [List.map_cons, List.mem_append, List.mem_cons] at hp ⊢
              rcases hp with hp | hp | hp
              · exact .inl hp
              · exact .inr (.inr (.inl hp))
              · exact .inr (.inr (.inr hp))
            · cases hn
          · intro u hu i hi t ht
            rcases List.mem_cons.1 hu with rfl | hu
            · dsimp only at hi; omega
            rcases List.mem_cons.1 hu with rfl | hu
            · dsimp only at hi ht
              by_cases e2 : (i : Int) < s.f1
              · exact rdOf_up (h.d1 s (by simp) i e2 t ht)
              · have : i = s.f1.toNat := by omega
                subst this
                rw [hget] at ht
                obtain rfl := Option.some.inj ht
                rw [rdOf_set hto.1 (by rw [h.ml]; exact hto.2) hto.1, if_pos rfl]
            · exact rdOf_up (h.d1 u (by simp [hu]) i hi t ht)
          · intro o ho t ht
            exact rdOf_up (h.d2 o ho t ht)
      · rw [if_neg hlt] at e
        refine ih _ _ _ _ ⟨h.ml, fun u hu => h.rng u (by simp [hu]), ?_, ?_, ?_, ?_, ?_, fun u hu => h.d1 u (by simp [hu]), ?_, .inr (by simp)⟩ e
        · intro o ho
          rcases List.mem_append.1 ho with ho | ho
          · exact h.orng o ho
          · rw [List.mem_singleton] at ho; subst ho; exact ⟨hs.1, hs.2.1⟩
        · have := h.nd
          simp only [List.map_cons, List.cons_append] at this
          rw [← List.append_assoc]
          have h2 := List.nodup_cons.1 this
          rw [List.nodup_append]
          refine ⟨h2.2, by simp, fun a ha b hb => ?_⟩
          rw [List.mem_singleton] at hb
          subst hb
          exact fun e => h2.1 (e ▸ ha)
        · intro b h0 h1
          rw [h.mt b h0 h1]
          simp only [List.map_cons, List.mem_cons, List.mem_append, List.not_mem_nil, or_false]
          constructor
          · rintro ((h | h) | h)
            · exact .inr (.inr h)
            · exact .inl h
            · exact .inr (.inl h)
          · rintro (h | h | h)
            · exact .inl (.inr h)
            · exact .inr h
            · exact .inl (.inl h)
        · have := h.ln
          cases st with
          | nil => trivial
          | cons t st => exact this.2
        · intro l1 v l2 he
          have hln := h.ln
          rcases List.eq_nil_or_concat l2 with rfl | ⟨l3, x, rfl⟩
          · have he2 := List.append_inj' he rfl
            have hv : s.f0 = v := by simpa using he2.2
            subst hv
            cases st with
            | nil => exact .inr ⟨hln, rfl, rfl⟩
            | cons t st => exact .inl ⟨t.f0, by simp, hln.1⟩
          · have he' : out ++ [s.f0] = (l1 ++ v :: l3) ++ [x] := by rw [he]; simp
            have he2 := List.append_inj' he' rfl
            have hx : s.f0 = x := by simpa using he2.2
            subst hx
            rcases h.par l1 v l3 he2.1 with ⟨p, hp, hv⟩ | ⟨_, _, hn⟩
            · refine .inl ⟨p, ?_, hv⟩
              simp only [List.map_cons, List.concat_eq_append, List.mem_append, List.mem_cons, List.not_mem_nil, or_false] at hp ⊢
              rcases hp with hp | hp | hp
              · exact .inl (.inl hp)
              · exact .inl (.inr hp)
              · exact .inr hp
            · cases hn
        · intro o ho t ht
          rcases List.mem_append.1 ho with ho | ho
          · exact h.d2 o ho t ht
          · rw [List.mem_singleton] at ho
            subst ho
            obtain ⟨i, hi⟩ := List.getElem?_of_mem ht
            refine h.d1 s (by simp) i ?_ t hi
            have := (List.getElem?_eq_some_iff.1 hi).1
            unfold nxB at this
            omega
structure OrderOk (bs : List S36) (ord : List Int) : Prop where
  nd : ord.Nodup
  ne : 0 < ord.length
  zero : ord.getD 0 0 = 0
  rng : ∀ o ∈ ord, 0 ≤ o ∧ o < bs.length
  next : ∀ o ∈ ord, ∀ t ∈ nxB bs o, t ∈ ord
  par : ∀ i, 0 < i → i < ord.length → ∃ j, j < i ∧ ord.getD i 0 ∈ nxB bs (ord.getD j 0)
theorem getD_rev {l : List Int} {i : Nat} (h : i < l.length) : l.reverse.getD i 0 = l.getD (l.length - 1 - i) 0 := by
  rw [List.getD_eq_getElem?_getD, List.getD_eq_getElem?_getD, List.getElem?_reverse h]
theorem orderS_ok (bs : List S36) (hT : okT bs) (hne : 0 < bs.length) : OrderOk bs (orderS bs) := by
  obtain ⟨r, hr, he⟩ := orderS_eq bs hT hne
  obtain ⟨met, h⟩ := order_inv bs hT _ _ _ _ _ (show OInv (nxB bs) bs.length [⟨0, 0⟩] ((List.replicate bs.length false).set 0 true) [] from {
    ml := by simp
    rng := by simp; omega
    orng := by simp
    nd := by simp
    mt := by
      intro b h0 h1
      have := rdOf_set (met := List.replicate bs.length false) (n := 0) (Int.le_refl _) (by simp; omega) h0
      rw [show (0 : Int).toNat = 0 from rfl] at this
      rw [this]
      by_cases e : b = 0
      · simp [e]
      · rw [if_neg e]
        have : rdOf false (List.replicate bs.length false) b = false := by
          unfold rdOf
          rw [List.getD_eq_getElem?_getD, List.getElem?_replicate]
          split <;> rfl
        rw [this]
        simp [e]
    ln := rfl
    par := by intro l1 v l2 e; simp at e
    d1 := by
      intro s hs i hi
      simp at hs
      subst hs
      dsimp only at hi
      omega
    d2 := by simp
    ne := .inl (by simp) }) hr
  have hne2 : r ≠ [] := by
    rcases h.ne with h | h
    · exact absurd rfl h
    · exact h
  have hnd : r.Nodup := by simpa using h.nd
  have hlen : 0 < r.length := List.length_pos_iff.2 hne2
  rw [← he]
  refine ⟨List.pairwise_reverse.2 (hnd.imp fun h => Ne.symm h), by simpa using hlen, ?_, fun o ho => h.orng o (by simpa using ho), ?_, ?_⟩
  · obtain ⟨l1, v, rfl⟩ : ∃ l1 v, r = l1 ++ [v] := by
      rcases List.eq_nil_or_concat r with h | ⟨l, x, h⟩
      · exact absurd h hne2
      · exact ⟨l, x, by simpa using h⟩
    rcases h.par l1 v [] (by simp) with ⟨p, hp, _⟩ | ⟨hv, _, _⟩
    · simp at hp
    · rw [List.reverse_append]; simpa using hv
  · intro o ho t ht
    have ho : o ∈ r := by simpa using ho
    have hor := h.orng o ho
    have htr := hT _ (getD_mem (d := z36) (by omega : o.toNat < bs.length)) t ht
    have := (h.mt t htr.1 htr.2).1 (h.d2 o ho t ht)
    simpa using this
  · intro i h0 hi
    rw [List.length_reverse] at hi
    have hq : r.length - 1 - i < r.length := by omega
    rw [getD_rev hi]
    have hsp : r = r.take (r.length - 1 - i) ++ r.getD (r.length - 1 - i) 0 :: r.drop (r.length - 1 - i + 1) := by
      rw [← drop_at r _ 0 hq, List.take_append_drop]
    rcases h.par _ _ _ hsp with ⟨p, hp, hv⟩ | ⟨_, hn, _⟩
    · rw [List.map_nil, List.append_nil] at hp
      obtain ⟨j, hj⟩ := List.getElem?_of_mem hp
      rw [List.getElem?_drop] at hj
      have hjl := (List.getElem?_eq_some_iff.1 hj).1
      refine ⟨r.length - 1 - (r.length - 1 - i + 1 + j), by omega, ?_⟩
      rw [getD_rev (by omega), show r.length - 1 - (r.length - 1 - (r.length - 1 - i + 1 + j)) = r.length - 1 - i + 1 + j from by omega]
      rw [show r.getD (r.length - 1 - i + 1 + j) 0 = p from by rw [List.getD_eq_getElem?_getD, hj]; rfl]
      exact hv
    · have : (r.drop (r.length - 1 - i + 1)).length = 0 := by rw [hn]; rfl
      rw [List.length_drop] at this
      omega
end Go.Proofs.Ytjmeignhhheckaa.H
namespace Go.Proofs.Ytjmeignhhheckaa.H
open Go.RowKit Go.Maps Go.Sort Go.Proofs.YtjmeignhhheckaaW.PrintWords Go.Proofs.YtjmeignhhheckaaW.PrintLast Go.Proofs.Ytjmeignhhheckaa.Q
set_option maxRecDepth 100000
end Go.Proofs.Ytjmeignhhheckaa.H
namespace Go.Proofs.Ytjmeignhhheckaa.D
end Go.Proofs.Ytjmeignhhheckaa.D
namespace Go.Proofs.Ytjmeignhhheckaa.D
/-- the ones ahead, by their numbers -/
def pre (ord num : List Int) (frm : List (List Int)) (i : Nat) : List Nat := (frm.getD (ord.getD i 0).toNat []).map fun p => (num.getD p.toNat 0).toNat
end Go.Proofs.Ytjmeignhhheckaa.D
namespace Go.Proofs.Ytjmeignhhheckaa.H
open Go.RowKit Go.Maps Go.Proofs.YtjmeignhhheckaaW.PrintWords Go.Proofs.YtjmeignhhheckaaW.PrintLast Go.Proofs.Ytjmeignhhheckaa.Q
set_option maxRecDepth 100000
end Go.Proofs.Ytjmeignhhheckaa.H
namespace Go.Proofs.Ytjmeignhhheckaa.D
end Go.Proofs.Ytjmeignhhheckaa.D
namespace Go.Proofs.Ytjmeignhhheckaa.H
open Go.RowKit Go.Maps Go.Proofs.YtjmeignhhheckaaW.PrintWords Go.Proofs.YtjmeignhhheckaaW.PrintLast Go.Proofs.Ytjmeignhhheckaa.Q Go.Proofs.Ytjmeignhhheckaa.D
set_option maxRecDepth 100000
end Go.Proofs.Ytjmeignhhheckaa.H
namespace Go.Proofs.Ytjmeignhhheckaa.H
open Go.RowKit Go.Maps Go.Proofs.YtjmeignhhheckaaW.PrintWords Go.Proofs.YtjmeignhhheckaaW.PrintLast Go.Proofs.Ytjmeignhhheckaa.Q Go.Proofs.Ytjmeignhhheckaa.D
set_option maxRecDepth 100000
theorem least {p : Nat → Prop} : ∀ n, p n → ∃ k, p k ∧ ∀ j, p j → k ≤ j := by
  intro n
  induction n using Nat.strongRecOn with
  | _ n ih =>
    intro h
    by_cases hx : ∃ j, j < n ∧ p j
    · obtain ⟨j, hj, hp⟩ := hx
      exact ih j hj hp
    · exact ⟨n, h, fun j hj => Nat.le_of_not_lt fun hl => hx ⟨j, hl, hj⟩⟩
theorem wp_weaken {P : Program} {c : Code} {Q Q' : Exit → Act → World → Prop} {a : Act} {w : World} (h : c.wp P Q a w) (hq : ∀ e a w, Q e a w → Q' e a w) : c.wp P Q' a w := by
  intro b k cs
  obtain ⟨e, a', w', h1, h2⟩ := h b k cs
  exact ⟨e, a', w', hq _ _ _ h1, h2⟩
open Classical in
/-- jumps back to one label, told by a number that falls; the code behind the label is walked once -/
theorem wp_scope_ghost {P : Program} {c rest : Code} {Q : Exit → Act → World → Prop} {a : Act} {w : World} (l : Nat) (J : Nat → Act → World → Prop) (hf : findLabel c l = some rest)
    (pass : ∀ k a w, J k a w → rest.wp P (Exit.jump l (fun a' w' => ∃ k', k' < k ∧ J k' a' w') Q) a w)
    (first : (∀ k a w, J k a w → rest.wp P (Exit.jump l (fun a' w' => ∃ k', J k' a' w') Q) a w) → c.wp P (Exit.jump l (fun a' w' => ∃ k', J k' a' w') Q) a w) : (Code.scope c).wp P Q a w := by
  refine wp_scope_jumps l (fun a w => ∃ k, J k a w) (fun a w => if h : ∃ k, J k a w ∧ ∀ j, J j a w → k ≤ j then h.choose else 0) hf ?_ ?_
  · refine first fun k a w hJ => wp_weaken (pass k a w hJ) fun e a' w' hq => ?_
    cases e with
    | goto l' => exact ⟨hq.1, by obtain ⟨k', _, h⟩ := hq.2; exact ⟨k', h⟩⟩
    | _ => exact hq
  · rintro a w ⟨n, hn⟩
    have hx := least (p := fun k => J k a w) n hn
    refine wp_weaken (pass hx.choose a w hx.choose_spec.1) fun e a' w' hq => ?_
    cases e with
    | goto l' =>
      obtain ⟨h1, k', h2, h3⟩ := hq
      refine ⟨h1, ⟨k', h3⟩, ?_⟩
      have hy := least (p := fun k => J k a' w') k' h3
      rw [dif_pos hx, dif_pos hy]
      exact Nat.lt_of_le_of_lt (hy.choose_spec.2 k' h3) h2
    | _ => exact hq
section
variable {w wr wr' : World} {G : Array Value} {gN gD nv dv n : Nat} {num dom ord : List Int} {ov : Value}
end
end Go.Proofs.Ytjmeignhhheckaa.H
namespace Go.Proofs.Ytjmeignhhheckaa.H
open Go.RowKit Go.Maps Go.Proofs.YtjmeignhhheckaaW.PrintWords Go.Proofs.YtjmeignhhheckaaW.PrintLast Go.Proofs.Ytjmeignhhheckaa.Q Go.Proofs.Ytjmeignhhheckaa.D
set_option maxRecDepth 100000
end Go.Proofs.Ytjmeignhhheckaa.H
namespace Go.Proofs.Ytjmeignhhheckaa.H
open Go.RowKit Go.Maps Go.Proofs.YtjmeignhhheckaaW.PrintWords Go.Proofs.YtjmeignhhheckaaW.PrintLast Go.Proofs.Ytjmeignhhheckaa.Q Go.Proofs.Ytjmeignhhheckaa.D
set_option maxRecDepth 100000
section
variable (bs : List S36) (dom : List Int)
end
variable {bs : List S36} {dom row : List Int} {j q : Nat} {d p b : Int}
end Go.Proofs.Ytjmeignhhheckaa.H
namespace Go.Proofs.Ytjmeignhhheckaa.H
open Go.RowKit Go.Maps Go.Proofs.YtjmeignhhheckaaW.PrintWords Go.Proofs.YtjmeignhhheckaaW.PrintLast Go.Proofs.Ytjmeignhhheckaa.Q Go.Proofs.Ytjmeignhhheckaa.D
set_option maxRecDepth 100000
section
variable {w wr wr' : World} {G : Array Value} {B nb : Nat} {num dom : List Int} {A5 : Option Addr} {c5 : Nat} {ord : List Int} {v : Value} {frm : List (List Int)} {SB : Nat}
end
end Go.Proofs.Ytjmeignhhheckaa.H
namespace Go.Proofs.Ytjmeignhhheckaa.H
open Go.RowKit Go.Maps Go.Proofs.YtjmeignhhheckaaW.PrintWords Go.Proofs.YtjmeignhhheckaaW.PrintLast Go.Proofs.Ytjmeignhhheckaa.Q Go.Proofs.Ytjmeignhhheckaa.D
set_option maxRecDepth 100000
end Go.Proofs.Ytjmeignhhheckaa.H
namespace Go.Proofs.Ytjmeignhhheckaa.Q
open Go.RowKit Go.Proofs.YtjmeignhhheckaaW.PrintWords Go.Proofs.YtjmeignhhheckaaW.PrintLast
end Go.Proofs.Ytjmeignhhheckaa.Q
namespace Go.Proofs.Ytjmeignhhheckaa.Q
open Go.RowKit Go.Proofs.YtjmeignhhheckaaW.PrintWords Go.Proofs.YtjmeignhhheckaaW.PrintLast Go.Proofs.YtjmeignhhheckaaW.PrintMore
attribute [local go_sem] max2_int min2_int max_two min_two max_three min_three max_four min_four   -- for this text's walks alone
set_option linter.unusedVariables false
set_option linter.unusedSimpArgs false
end Go.Proofs.Ytjmeignhhheckaa.Q
namespace Go.Proofs.Ytjmeignhhheckaa.Q
open Go.RowKit Go.Proofs.YtjmeignhhheckaaW.PrintWords Go.Proofs.YtjmeignhhheckaaW.PrintLast Go.Proofs.YtjmeignhhheckaaW.PrintMore
attribute [local go_sem] max2_int min2_int max_two min_two max_three min_three max_four min_four   -- for this text's walks alone
set_option linter.unusedVariables false
set_option linter.unusedSimpArgs false
end Go.Proofs.Ytjmeignhhheckaa.Q
namespace Go.Proofs.Ytjmeignhhheckaa.Q
open Go.RowKit Go.Proofs.YtjmeignhhheckaaW.PrintWords Go.Proofs.YtjmeignhhheckaaW.PrintLast Go.Proofs.YtjmeignhhheckaaW.PrintMore
attribute [local go_sem] max2_int min2_int max_two min_two max_three min_three max_four min_four   -- for this text's walks alone
set_option linter.unusedVariables false
set_option linter.unusedSimpArgs false
end Go.Proofs.Ytjmeignhhheckaa.Q
namespace Go.Proofs.Ytjmeignhhheckaa.Q
open Go.RowKit Go.Proofs.YtjmeignhhheckaaW.PrintWords Go.Proofs.YtjmeignhhheckaaW.PrintLast Go.Proofs.YtjmeignhhheckaaW.PrintMore
attribute [local go_sem] max2_int min2_int max_two min_two max_three min_three max_four min_four   -- for this text's walks alone
set_option linter.unusedVariables false
set_option linter.unusedSimpArgs false
end Go.Proofs.Ytjmeignhhheckaa.Q
namespace Go.Proofs.Ytjmeignhhheckaa.H
open Go.RowKit Go.Maps Go.Proofs.YtjmeignhhheckaaW.PrintWords Go.Proofs.YtjmeignhhheckaaW.PrintLast Go.Proofs.Ytjmeignhhheckaa.Q
set_option maxRecDepth 100000
def g3 : List S36 := [⟨[], 1, 0, 1, 0⟩, ⟨[], 3, 0, 0, 0⟩, ⟨[], 3, 0, 0, 0⟩]
end Go.Proofs.Ytjmeignhhheckaa.H
namespace Go.Proofs.Ytjmeignhhheckaa.Q
open Go.RowKit Go.Proofs.YtjmeignhhheckaaW.PrintWords Go.Proofs.YtjmeignhhheckaaW.PrintLast Go.Proofs.YtjmeignhhheckaaW.PrintMore
attribute [local go_sem] max2_int min2_int max_two min_two max_three min_three max_four min_four   -- for this text's walks alone
set_option linter.unusedVariables false
set_option linter.unusedSimpArgs false
end Go.Proofs.Ytjmeignhhheckaa.Q
namespace Go.Proofs.Ytjmeignhhheckaa.Q
open Go.RowKit Go.Proofs.YtjmeignhhheckaaW.PrintWords Go.Proofs.YtjmeignhhheckaaW.PrintLast Go.Proofs.YtjmeignhhheckaaW.PrintMore
attribute [local go_sem] max2_int min2_int max_two min_two max_three min_three max_four min_four   -- for this text's walks alone
set_option linter.unusedVariables false
set_option linter.unusedSimpArgs false
end Go.Proofs.Ytjmeignhhheckaa.Q
namespace Go.Proofs.Ytjmeignhhheckaa.Q
open Go.RowKit Go.Proofs.YtjmeignhhheckaaW.PrintWords Go.Proofs.YtjmeignhhheckaaW.PrintLast Go.Proofs.YtjmeignhhheckaaW.PrintMore
attribute [local go_sem] max2_int min2_int max_two min_two max_three min_three max_four min_four   -- for this text's walks alone
set_option linter.unusedVariables false
set_option linter.unusedSimpArgs false
end Go.Proofs.Ytjmeignhhheckaa.Q
namespace Go.Proofs.Ytjmeignhhheckaa.H
open Go.RowKit Go.Maps Go.Proofs.YtjmeignhhheckaaW.PrintWords Go.Proofs.YtjmeignhhheckaaW.PrintLast Go.Proofs.Ytjmeignhhheckaa.Q Go.Proofs.Ytjmeignhhheckaa.D
set_option maxRecDepth 100000
/-- what flow.Reach, flow.Dom say -/
theorem rd_fold (n : Nat) : ∀ (ord : List Int) (x : List Bool), x.length = n → (∀ o ∈ ord, 0 ≤ o ∧ o < n) → (ord.foldl (fun x o => x.set o.toNat true) x).length = n ∧ ∀ b : Nat, b < n → rdOf false (ord.foldl (fun x o => x.set o.toNat true) x) (b : Int) = (rdOf false x b || decide ((b : Int) ∈ ord)) := by
  intro ord
  induction ord with
  | nil => intro x hx _; exact ⟨hx, fun b _ => by simp⟩
  | cons o ord ih =>
    intro x hx ho
    have h1 := ho o (by simp)
    obtain ⟨h2, h3⟩ := ih (x.set o.toNat true) (by rw [List.length_set]; exact hx) (fun p hp => ho p (by simp [hp]))
    refine ⟨h2, fun b hb => ?_⟩
    rw [List.foldl_cons, h3 b hb, rdOf_set h1.1 (by omega) (Int.natCast_nonneg b)]
    by_cases e : (b : Int) = o
    · simp [e]
    · simp [e]
structure FEnv (bs : List S36) : Prop where
  ne : 0 < bs.length
  nb : bs.length ≤ 4096
  T : okT bs
theorem FEnv.of {xs : List Bool} {sites : Int} {bs : List S36} (hE : gE xs sites bs = 0) : FEnv bs := ⟨(gE_gok hE).ne, (gE_gok hE).nb, (gE_gok hE).T⟩
section
variable {bs : List S36}
theorem FEnv.ord (h : FEnv bs) : OrderOk bs (orderS bs) := orderS_ok bs h.T h.ne
theorem FEnv.rlen (h : FEnv bs) : (reachS bs).length = bs.length := (rd_fold bs.length (orderS bs) _ (by simp) h.ord.rng).1
theorem FEnv.reach (h : FEnv bs) (b : Nat) (hb : b < bs.length) : rdOf false (reachS bs) (b : Int) = decide ((b : Int) ∈ orderS bs) := by
  rw [reachS, (rd_fold bs.length (orderS bs) _ (by simp) h.ord.rng).2 b hb]
  have : rdOf false (List.replicate bs.length false) (b : Int) = false := by
    unfold rdOf
    rw [List.getD_eq_getElem?_getD, List.getElem?_replicate]
    split <;> rfl
  rw [this, Bool.false_or]
end
end Go.Proofs.Ytjmeignhhheckaa.H
namespace Go.Proofs.Ytjmeignhhheckaa.Q
open Go.RowKit Go.Proofs.YtjmeignhhheckaaW.PrintWords Go.Proofs.YtjmeignhhheckaaW.PrintLast Go.Proofs.YtjmeignhhheckaaW.PrintMore
attribute [local go_sem] max2_int min2_int max_two min_two max_three min_three max_four min_four   -- for this text's walks alone
set_option linter.unusedVariables false
set_option linter.unusedSimpArgs false
def flow_Inside.f (l0_0 : List Bool) (a0_1 : Int) (l0_2 : List (S36)) : Option (List Bool × Int) := (flow_check.f l0_0 a0_1 l0_2).bind fun t477 => (if t477 = 0 then ((paths_Sides.f l0_0 a0_1 l0_2).bind fun bt478 => (some (bt478.1, 0))) else (some (([] : List Bool), t477)))
set_option maxHeartbeats 8000000 in
set_option maxRecDepth 100000 in
theorem flow_Inside.calls (A0_0 : Option Addr) (c0_0 : Nat) (l0_0 : List Bool) (a0_1 : Int) (A0_2 : Option Addr) (c0_2 : Nat) (l0_2 : List (S36)) (r1 : List Bool) (r2 : Int) (w : World) (hr0_0 : Kd.C Kd.bool w A0_0 l0_0.length l0_0) (hc0_0 : l0_0.length ≤ c0_0) (hr0_2 : Kd.C k36 w A0_2 l0_2.length l0_2) (hc0_2 : l0_2.length ≤ c0_2) (h : flow_Inside.f l0_0 a0_1 l0_2 = some (r1, r2)) :
    Calls Try.prog 53 #[.agg #[.slice A0_0 l0_0.length c0_0, .int .i64 a0_1, .slice A0_2 l0_2.length c0_2]] w fun e w' => ∃ v0_ : Value, e = .returned (.tuple #[v0_, .int .i64 r2]) ∧ Kd.R Kd.bool 4 w' w.heap.size (fun _ => True) v0_ r1 ∧ Below w.heap.size w w' := by
  have hu25 := Try.underlying25
  have HR0_0 := Aside0.mk hr0_0
  have HC0_0 := Aside0.mk hc0_0
  clear hr0_0 hc0_0
  have HR0_2 := Aside0.mk hr0_2
  have HC0_2 := Aside0.mk hc0_2
  clear hr0_2 hc0_2
  have HB := Aside0.mk (Below.refl w.heap.size w)
  have H : ((flow_check.f l0_0 a0_1 l0_2).bind fun t477 => (if t477 = 0 then ((paths_Sides.f l0_0 a0_1 l0_2).bind fun bt478 => (some (bt478.1, 0))) else (some (([] : List Bool), t477)))) = some (r1, r2) := h
  clear h
  replace H := Option.bind_eq_some_iff.mp H
  obtain ⟨t477, A20, H⟩ := H
  replace H : (if t477 = 0 then ((paths_Sides.f l0_0 a0_1 l0_2).bind fun bt478 => (some (bt478.1, 0))) else (some (([] : List Bool), t477))) = some (r1, r2) := H
  have A2 := Aside0.mk A20
  clear A20
  by_cases c3 : t477 = 0
  · rw [if_pos c3] at H
    have c3b0 : (t477 == 0) = true := beq_iff_eq.mpr c3
    have c3b1 : (t477 != 0) = false := bne_eq_false_iff_eq.mpr c3
    clear c3
    replace H := Option.bind_eq_some_iff.mp H
    obtain ⟨⟨t478, t481⟩, A40, H⟩ := H
    replace H : (some (t478, 0)) = some (r1, r2) := H
    have A4 := Aside0.mk A40
    clear A40
    simp only [Option.some.injEq, Prod.mk.injEq] at H
    obtain ⟨rfl, rfl⟩ := H
    go_enter Try.func53, Try.ntmps53
    go_wp2_with (first | ((with_reducible refine gate_dst (N := 1) rfl ?_); refine box_event ?hg (N := 1) ?hd (cs := #[.slice A0_0 l0_0.length c0_0, .int .i64 a0_1, .slice A0_2 l0_2.length c0_2]) (t := 25) ?hr ?_; (case hd => rfl); (case hg => rfl); (case hr => first | (go_simp; done) | (go_simp; rfl)); intro gb476 hg w5 hbox hb; have n0_ := Aside0.mk (below_step (by repeat (first | (with_reducible first | exact HB.out | apply below_alloc | apply pw_below_drewN | apply below_drew1) | exact HB.out)) hb); have n1_ := Aside0.mk (hbox); have n2_ := Aside0.mk ((by rw [hg]; exact (below_size (by repeat (first | (with_reducible first | exact HB.out | apply below_alloc | apply pw_below_drewN | apply below_drew1) | exact HB.out))) : w.heap.size ≤ gb476)); have n3_ := Aside0.mk ((by rw [hg]; exact (below_size (by repeat (first | (with_reducible first | exact HB.out | apply below_alloc | apply pw_below_drewN | apply below_drew1) | exact HB.out))) : w.heap.size ≤ gb476)); clear HB; have HB := n0_; have BK476 := n1_; have GW476 := n2_; have GE476 := n3_; clear n0_ n1_ n2_ n3_; clear hb hbox hg; have hcz6_0 : w5.cell? ⟨gb476, 0, none⟩ = some (.slice A0_0 l0_0.length c0_0) := (blk_cell BK476.out 0).trans rfl; have hcz6_1 : w5.cell? ⟨gb476, 1, none⟩ = some (.int .i64 a0_1) := (blk_cell BK476.out 1).trans rfl; have hcz6_2 : w5.cell? ⟨gb476, 2, none⟩ = some (.slice A0_2 l0_2.length c0_2) := (blk_cell BK476.out 2).trans rfl; have hfz6_0 := blk_frozen BK476.out 0; have hfz6_1 := blk_frozen BK476.out 1; have hfz6_2 := blk_frozen BK476.out 2) | ((with_reducible refine gate_callee (f := 84) rfl ?_); refine goesL_ (some 8) rfl rfl Try.func84 (by kernel_rfl) rfl #[.agg #[.slice A0_0 l0_0.length c0_0, .int .i64 a0_1, .slice A0_2 l0_2.length c0_2]] rfl (by (try simp only [List.map_toArray, List.map_cons, List.map_nil]); first | done | rfl | (simp only [List.length_drop, List.length_take]; rfl)) ?_; (with_reducible refine (flow_check.calls (fun k_ => k_ < w.heap.size) _ _ l0_0 a0_1 (fun k_ => k_ < w.heap.size) _ _ l0_2 t477 _ ?side1 ?side2 A2.out).mono ?_); (case side1 => exact Kd.V_mk HC0_0.out (Kd.F_below (Kd.C_F Kd.heap_bool HR0_0.out) (by repeat (first | (with_reducible first | exact HB.out | apply below_alloc | apply pw_below_drewN | apply below_drew1 | refine below_set ?_ GE476.out) | exact HB.out)))); (case side2 => exact Kd.V_mk HC0_2.out (Kd.F_below (Kd.C_F k36_heap HR0_2.out) (by repeat (first | (with_reducible first | exact HB.out | apply below_alloc | apply pw_below_drewN | apply below_drew1 | refine below_set ?_ GE476.out) | exact HB.out)))); rintro e w7 ⟨rfl, hb⟩; refine ⟨_, rfl, ?_⟩; have n0_ := Aside0.mk (blk_below (g := gb476) (o := .cells #[.slice A0_0 l0_0.length c0_0, .int .i64 a0_1, .slice A0_2 l0_2.length c0_2] 25 (0, 0)) (by (with_reducible repeat (first | refine blk_drewN ?_ _ | refine blk_drew ?_ | refine blk_alloc ?_ _)); exact BK476.out) hb); have n1_ := Aside0.mk (below_step (by repeat (first | (with_reducible first | exact HB.out | apply below_alloc | apply pw_below_drewN | apply below_drew1 | refine below_set ?_ GE476.out) | exact HB.out)) hb); clear BK476; clear HB; have BK476 := n0_; have HB := n1_; clear n0_ n1_; (try clear hb); (try clear hb2); (try clear hk); (try clear hi); have hcz8_0 : w7.cell? ⟨gb476, 0, none⟩ = some (.slice A0_0 l0_0.length c0_0) := (blk_cell BK476.out 0).trans rfl; have hcz8_1 : w7.cell? ⟨gb476, 1, none⟩ = some (.int .i64 a0_1) := (blk_cell BK476.out 1).trans rfl; have hcz8_2 : w7.cell? ⟨gb476, 2, none⟩ = some (.slice A0_2 l0_2.length c0_2) := (blk_cell BK476.out 2).trans rfl; have hfz8_0 := blk_frozen BK476.out 0; have hfz8_1 := blk_frozen BK476.out 1; have hfz8_2 := blk_frozen BK476.out 2) | ((with_reducible refine gate_callee (f := 89) rfl ?_); refine goesL_ (some 14) rfl rfl Try.func89 (by kernel_rfl) rfl #[.agg #[.slice A0_0 l0_0.length c0_0, .int .i64 a0_1, .slice A0_2 l0_2.length c0_2]] rfl (by (try simp only [List.map_toArray, List.map_cons, List.map_nil]); first | done | rfl | (simp only [List.length_drop, List.length_take]; rfl)) ?_; (with_reducible refine (paths_Sides.calls _ _ l0_0 a0_1 _ _ l0_2 t478 t481 _ ?side1 ?side2 ?side3 ?side4 A4.out).mono ?_); (case side1 => repeat (first | exact (Kd.C_below HR0_0.out HB.out) | (with_reducible refine Kd.C_alloc ?_ _) | (with_reducible refine Kd.C_drewN ?_ _) | (with_reducible refine Kd.C_drew ?_))); (case side2 => exact HC0_0.out); (case side3 => repeat (first | exact (Kd.C_below HR0_2.out HB.out) | (with_reducible refine Kd.C_alloc ?_ _) | (with_reducible refine Kd.C_drewN ?_ _) | (with_reducible refine Kd.C_drew ?_))); (case side4 => exact HC0_2.out); rintro e w9 ⟨v479, v482, rfl, ho0, ho1, hb⟩; refine ⟨_, rfl, ?_⟩; have n0_ := Aside0.mk (Kd.R_lower ho0 (below_size (by repeat (first | (with_reducible first | exact HB.out | apply below_alloc | apply pw_below_drewN | apply below_drew1 | refine below_set ?_ GE476.out) | exact HB.out)))); have n1_ := Aside0.mk (Kd.R_lower ho1 (below_size (by repeat (first | (with_reducible first | exact HB.out | apply below_alloc | apply pw_below_drewN | apply below_drew1 | refine below_set ?_ GE476.out) | exact HB.out)))); have n2_ := Aside0.mk (blk_below (g := gb476) (o := .cells #[.slice A0_0 l0_0.length c0_0, .int .i64 a0_1, .slice A0_2 l0_2.length c0_2] 25 (0, 0)) (by (with_reducible repeat (first | refine blk_drewN ?_ _ | refine blk_drew ?_ | refine blk_alloc ?_ _)); exact BK476.out) hb); have n3_ := Aside0.mk (below_step (by repeat (first | (with_reducible first | exact HB.out | apply below_alloc | apply pw_below_drewN | apply below_drew1 | refine below_set ?_ GE476.out) | exact HB.out)) hb); clear BK476; clear HB; have HO480 := n0_; have HO483 := n1_; have BK476 := n2_; have HB := n3_; clear n0_ n1_ n2_ n3_; (try clear hb); (try clear hb2); (try clear hk); (try clear hi); (try clear ho0); (try clear ho1)))
    go_ret2
    exact ⟨_, by first | rfl | (simp [errW_none, errW_some] <;> rfl) | (simp [*, errW_none, errW_some] <;> rfl), by (with_reducible repeat (first | apply Kd.R_alloc | apply Kd.R_drewN | apply Kd.R_drew)); exact Kd.R_mono HO480.out (fun _ hk => trivial), by repeat (first | (with_reducible first | exact HB.out | apply below_alloc | apply pw_below_drewN | apply below_drew1 | refine below_set ?_ GE476.out) | exact HB.out)⟩
  · rw [if_neg c3] at H
    have c3b0 : (t477 == 0) = false := beq_eq_false_iff_ne.mpr c3
    have c3b1 : (t477 != 0) = true := bne_iff_ne.mpr c3
    simp only [Option.some.injEq, Prod.mk.injEq] at H
    obtain ⟨rfl, rfl⟩ := H
    go_enter Try.func53, Try.ntmps53
    go_wp2_with (first | ((with_reducible refine gate_dst (N := 1) rfl ?_); refine box_event ?hg (N := 1) ?hd (cs := #[.slice A0_0 l0_0.length c0_0, .int .i64 a0_1, .slice A0_2 l0_2.length c0_2]) (t := 25) ?hr ?_; (case hd => rfl); (case hg => rfl); (case hr => first | (go_simp; done) | (go_simp; rfl)); intro gb476 hg w10 hbox hb; have n0_ := Aside0.mk (below_step (by repeat (first | (with_reducible first | exact HB.out | apply below_alloc | apply pw_below_drewN | apply below_drew1) | exact HB.out)) hb); have n1_ := Aside0.mk (hbox); have n2_ := Aside0.mk ((by rw [hg]; exact (below_size (by repeat (first | (with_reducible first | exact HB.out | apply below_alloc | apply pw_below_drewN | apply below_drew1) | exact HB.out))) : w.heap.size ≤ gb476)); have n3_ := Aside0.mk ((by rw [hg]; exact (below_size (by repeat (first | (with_reducible first | exact HB.out | apply below_alloc | apply pw_below_drewN | apply below_drew1) | exact HB.out))) : w.heap.size ≤ gb476)); clear HB; have HB := n0_; have BK476 := n1_; have GW476 := n2_; have GE476 := n3_; clear n0_ n1_ n2_ n3_; clear hb hbox hg; have hcz11_0 : w10.cell? ⟨gb476, 0, none⟩ = some (.slice A0_0 l0_0.length c0_0) := (blk_cell BK476.out 0).trans rfl; have hcz11_1 : w10.cell? ⟨gb476, 1, none⟩ = some (.int .i64 a0_1) := (blk_cell BK476.out 1).trans rfl; have hcz11_2 : w10.cell? ⟨gb476, 2, none⟩ = some (.slice A0_2 l0_2.length c0_2) := (blk_cell BK476.out 2).trans rfl; have hfz11_0 := blk_frozen BK476.out 0; have hfz11_1 := blk_frozen BK476.out 1; have hfz11_2 := blk_frozen BK476.out 2) | ((with_reducible refine gate_callee (f := 84) rfl ?_); refine goesL_ (some 8) rfl rfl Try.func84 (by kernel_rfl) rfl #[.agg #[.slice A0_0 l0_0.length c0_0, .int .i64 a0_1, .slice A0_2 l0_2.length c0_2]] rfl (by (try simp only [List.map_toArray, List.map_cons, List.map_nil]); first | done | rfl | (simp only [List.length_drop, List.length_take]; rfl)) ?_; (with_reducible refine (flow_check.calls (fun k_ => k_ < w.heap.size) _ _ l0_0 a0_1 (fun k_ => k_ < w.heap.size) _ _ l0_2 t477 _ ?side1 ?side2 A2.out).mono ?_); (case side1 => exact Kd.V_mk HC0_0.out (Kd.F_below (Kd.C_F Kd.heap_bool HR0_0.out) (by repeat (first | (with_reducible first | exact HB.out | apply below_alloc | apply pw_below_drewN | apply below_drew1 | refine below_set ?_ GE476.out) | exact HB.out)))); (case side2 => exact Kd.V_mk HC0_2.out (Kd.F_below (Kd.C_F k36_heap HR0_2.out) (by repeat (first | (with_reducible first | exact HB.out | apply below_alloc | apply pw_below_drewN | apply below_drew1 | refine below_set ?_ GE476.out) | exact HB.out)))); rintro e w12 ⟨rfl, hb⟩; refine ⟨_, rfl, ?_⟩; have n0_ := Aside0.mk (blk_below (g := gb476) (o := .cells #[.slice A0_0 l0_0.length c0_0, .int .i64 a0_1, .slice A0_2 l0_2.length c0_2] 25 (0, 0)) (by (with_reducible repeat (first | refine blk_drewN ?_ _ | refine blk_drew ?_ | refine blk_alloc ?_ _)); exact BK476.out) hb); have n1_ := Aside0.mk (below_step (by repeat (first | (with_reducible first | exact HB.out | apply below_alloc | apply pw_below_drewN | apply below_drew1 | refine below_set ?_ GE476.out) | exact HB.out)) hb); clear BK476; clear HB; have BK476 := n0_; have HB := n1_; clear n0_ n1_; (try clear hb); (try clear hb2); (try clear hk); (try clear hi)))
    go_ret2
    exact ⟨_, by first | rfl | (simp [errW_none, errW_some] <;> rfl) | (simp [*, errW_none, errW_some] <;> rfl), by first | exact Kd.R_nil _ _ _ _ _ | exact Kd.N_nil _ _ _ _ _ | exact Kd.V_nil _ _ _ _ _ | exact Kd.Q_nil _ _ _ _ _ | exact Kd.S_nil _ _ _ _ _, by repeat (first | (with_reducible first | exact HB.out | apply below_alloc | apply pw_below_drewN | apply below_drew1 | refine below_set ?_ GE476.out) | exact HB.out)⟩
end Go.Proofs.Ytjmeignhhheckaa.Q
namespace Go.Proofs.Ytjmeignhhheckaa.Q
open Go.RowKit Go.Proofs.YtjmeignhhheckaaW.PrintWords Go.Proofs.YtjmeignhhheckaaW.PrintLast Go.Proofs.YtjmeignhhheckaaW.PrintMore
attribute [local go_sem] max2_int min2_int max_two min_two max_three min_three max_four min_four   -- for this text's walks alone
set_option linter.unusedVariables false
set_option linter.unusedSimpArgs false
end Go.Proofs.Ytjmeignhhheckaa.Q
namespace Go.Proofs.Ytjmeignhhheckaa.Q
open Go.RowKit Go.Proofs.YtjmeignhhheckaaW.PrintWords Go.Proofs.YtjmeignhhheckaaW.PrintLast Go.Proofs.YtjmeignhhheckaaW.PrintMore
attribute [local go_sem] max2_int min2_int max_two min_two max_three min_three max_four min_four   -- for this text's walks alone
set_option linter.unusedVariables false
set_option linter.unusedSimpArgs false
end Go.Proofs.Ytjmeignhhheckaa.Q
namespace Go.Proofs.Ytjmeignhhheckaa.H
open Go.RowKit Go.Maps Go.Proofs.YtjmeignhhheckaaW.PrintWords Go.Proofs.YtjmeignhhheckaaW.PrintLast Go.Proofs.Ytjmeignhhheckaa.Q Go.Proofs.Ytjmeignhhheckaa.D
set_option maxRecDepth 100000
def sel (s : Bool) (i o : List Bool) : List Bool := if s then i else o
theorem sel_set {s t : Bool} {i o : List Bool} {n : Nat} (hi : i.length = n) (ho : o.length = n) {v : Int} (h0 : 0 ≤ v) (h1 : v < n) {b : Int} (hb : 0 ≤ b) :
    rdOf false (sel t (if s then i.set v.toNat true else i) (if s then o else o.set v.toNat true)) b = if s = t ∧ b = v then true else rdOf false (sel t i o) b := by
  cases s <;> cases t <;> simp only [sel, if_true, if_false, Bool.false_eq_true, false_and, true_and, reduceCtorEq]
  · exact rdOf_set h0 (by omega) hb
  · exact rdOf_set h0 (by omega) hb
theorem sides_closed (bs : List S36) (hT : okT bs) : ∀ (k : Nat) (st : List S171) (i o i' o' : List Bool), sidesGo bs k st i o = some (i', o') → i.length = bs.length → o.length = bs.length → (∀ v ∈ st, 0 ≤ v.f0 ∧ v.f0 < bs.length) →
    (∀ s (b : Int), 0 ≤ b → rdOf false (sel s i o) b = true → rdOf false (sel s i' o') b = true) ∧ (∀ v ∈ st, rdOf false (sel v.f1 i' o') v.f0 = true) ∧
    (∀ s (b : Int), 0 ≤ b → rdOf false (sel s i' o') b = true → rdOf false (sel s i o) b = true ∨ ∀ t ∈ nexts (rd_T36 bs b), rdOf false (sel (blkEnd (rd_T36 bs b).f0 s) i' o') t = true) := by
  intro k
  induction k with
  | zero =>
    intro st i o i' o' h hi ho hst
    cases st with
    | nil =>
      obtain ⟨rfl, rfl⟩ : i = i' ∧ o = o' := by simpa [sidesGo] using h
      exact ⟨fun s b _ h => h, (by simp), fun s b _ h => .inl h⟩
    | cons v st => cases h
  | succ k ih =>
    intro st i o i' o' h hi ho hst
    cases st with
    | nil =>
      obtain ⟨rfl, rfl⟩ : i = i' ∧ o = o' := by simpa [sidesGo] using h
      exact ⟨fun s b _ h => h, (by simp), fun s b _ h => .inl h⟩
    | cons v st =>
      have hv := hst v (by simp)
      simp only [sidesGo] at h
      by_cases hq : (if v.f1 then rdOf false i v.f0 else rdOf false o v.f0) = true
      · rw [if_pos hq] at h
        obtain ⟨h1, h2, h3⟩ := ih st i o i' o' h hi ho (fun u hu => hst u (by simp [hu]))
        refine ⟨h1, fun u hu => ?_, h3⟩
        rcases List.mem_cons.1 hu with rfl | hu
        · refine h1 _ _ hv.1 ?_
          unfold sel
          cases hf : u.f1 <;> simp only [hf, if_true, if_false, Bool.false_eq_true] at hq ⊢ <;> exact hq
        · exact h2 u hu
      · rw [if_neg hq] at h
        obtain ⟨h1, h2, h3⟩ := ih _ _ _ i' o' h (by split <;> simp [hi]) (by split <;> simp [ho]) (fun u hu => by
          rcases List.mem_append.1 hu with hu | hu
          · rw [List.mem_reverse, List.mem_map] at hu
            obtain ⟨t, ht, rfl⟩ := hu
            exact hT _ (getD_mem (by omega)) t ht
          · exact hst u (by simp [hu]))
        have hvv : rdOf false (sel v.f1 i' o') v.f0 = true := h1 v.f1 v.f0 hv.1 (by rw [sel_set hi ho hv.1 hv.2 hv.1, if_pos ⟨rfl, rfl⟩])
        refine ⟨fun s b hb hh => h1 s b hb ?_, fun u hu => ?_, fun s b hb hh => ?_⟩
        · rw [sel_set hi ho hv.1 hv.2 hb]
          split
          · rfl
          · exact hh
        · rcases List.mem_cons.1 hu with rfl | hu
          · exact hvv
          · exact h2 u (by simp [hu])
        · rcases h3 s b hb hh with h4 | h4
          · rw [sel_set hi ho hv.1 hv.2 hb] at h4
            split at h4
            · rename_i he
              obtain ⟨rfl, rfl⟩ := he
              refine .inr fun t ht => ?_
              exact h2 ⟨t, blkEnd (rd_T36 bs v.f0).f0 v.f1⟩ (by
                rw [List.mem_append, List.mem_reverse, List.mem_map]
                exact .inl ⟨t, ht, rfl⟩)
            · exact .inl h4
          · exact .inr h4
theorem bothScan_none {i o : List Bool} : ∀ (m n : Nat), bothScan i o m n = none → ∀ b : Nat, n ≤ b → b < n + m → ¬ (rdOf false i b = true ∧ rdOf false o b = true) := by
  intro m
  induction m with
  | zero => intro n _ b h1 h2; omega
  | succ m ih =>
    intro n h b h1 h2
    simp only [bothScan] at h
    by_cases hq : (rdOf false i n && rdOf false o n) = true
    · rw [if_pos hq] at h; cases h
    · rw [if_neg hq] at h
      by_cases e : b = n
      · subst e
        intro hh
        exact hq (by rw [hh.1, hh.2]; rfl)
      · exact ih (n + 1) h b (by omega) (by omega)
theorem both_none {xs : List Bool} {sites : Int} {bs : List S36} (h : gE xs sites bs = 0) : bothScan (sidesOf bs).1 (sidesOf bs).2 bs.length 0 = none := by
  unfold gE at h
  by_cases hc : (checkS 65536 [⟨xs, sites, bs⟩]).2.2.2 = 0
  · unfold checkS at hc
    split at hc
    · cases hc
    split at hc
    · cases hc
    unfold goS at hc
    dsimp only at hc
    by_cases h0 : countsS xs sites bs = 0
    · rw [if_neg (by rw [h0]; decide)] at hc
      by_cases hf : (faultS xs sites 65536 bs).2.2 = true
      · rw [if_pos hf] at hc; cases hc
      · unfold faultS at hf
        cases hb : blkScan xs sites 65536 bs.length bs 0 [] with
        | some p => rw [hb] at hf; exact absurd rfl hf
        | none =>
          rw [hb] at hf
          dsimp only at hf
          cases hq : bothScan (sidesOf bs).1 (sidesOf bs).2 bs.length 0 with
          | none => rfl
          | some n => rw [hq] at hf; exact absurd rfl hf
    · rw [if_pos h0] at hc
      exact absurd hc h0
  · rw [if_neg hc] at h; cases h
structure SideOk (bs : List S36) : Prop where
  li : (sidesOf bs).1.length = bs.length
  lo : (sidesOf bs).2.length = bs.length
  zero : rdOf false (sel false (sidesOf bs).1 (sidesOf bs).2) 0 = true
  next : ∀ s (b : Int), 0 ≤ b → rdOf false (sel s (sidesOf bs).1 (sidesOf bs).2) b = true → ∀ t ∈ nexts (rd_T36 bs b), rdOf false (sel (blkEnd (rd_T36 bs b).f0 s) (sidesOf bs).1 (sidesOf bs).2) t = true
  one : ∀ s (b : Nat), b < bs.length → rdOf false (sel s (sidesOf bs).1 (sidesOf bs).2) b = true → rdOf false (sidesOf bs).1 b = s
theorem sideOk {xs : List Bool} {sites : Int} {bs : List S36} (h : gE xs sites bs = 0) : SideOk bs := by
  have F := FEnv.of h
  obtain ⟨h0, h1, h2⟩ := sidesOf_eq bs F.T F.ne
  obtain ⟨h3, h4, h5⟩ := sides_closed bs F.T _ _ _ _ _ _ h0 (by simp) (by simp) (by simp; exact F.ne)
  have hz : ∀ s (b : Int), rdOf false (sel s (List.replicate bs.length false) (List.replicate bs.length false)) b = false := fun s b => by
    have : sel s (List.replicate bs.length false) (List.replicate bs.length false) = List.replicate bs.length false := by unfold sel; split <;> rfl
    rw [this]
    unfold rdOf
    rw [List.getD_eq_getElem?_getD, List.getElem?_replicate]
    split <;> rfl
  refine ⟨h1, h2, h4 ⟨0, false⟩ (by simp), fun s b hb hh => ?_, fun s b hb hh => ?_⟩
  · rcases h5 s b hb hh with h6 | h6
    · rw [hz] at h6; cases h6
    · exact h6
  · have := bothScan_none _ _ (both_none h) b (by omega) (by omega)
    cases s with
    | true => exact hh
    | false =>
      have hh : rdOf false (sidesOf bs).2 b = true := hh
      cases hq : rdOf false (sidesOf bs).1 b with
      | false => rfl
      | true => exact absurd ⟨hq, hh⟩ this
theorem inside_f {xs : List Bool} {sites : Int} {bs : List S36} (hs : smallG bs) : ∃ x, flow_Inside.f xs sites bs = some (x, gE xs sites bs) ∧ (gE xs sites bs = 0 → x = (sidesOf bs).1) := by
  unfold flow_Inside.f
  rw [check_f xs sites bs hs, Option.bind_some]
  by_cases h : gE xs sites bs = 0
  · have F := FEnv.of h
    rw [if_pos h, h]
    unfold paths_Sides.f
    rw [if_pos ⟨F.ne, by have := F.nb; omega, F.T⟩]
    exact ⟨_, rfl, fun _ => rfl⟩
  · rw [if_neg h]
    exact ⟨_, rfl, fun h2 => absurd h2 h⟩
end Go.Proofs.Ytjmeignhhheckaa.H
namespace Go.Proofs.Ytjmeignhhheckaa.Q
open Go.RowKit Go.Proofs.YtjmeignhhheckaaW.PrintWords Go.Proofs.YtjmeignhhheckaaW.PrintLast Go.Proofs.YtjmeignhhheckaaW.PrintMore
attribute [local go_sem] max2_int min2_int max_two min_two max_three min_three max_four min_four   -- for this text's walks alone
set_option linter.unusedVariables false
set_option linter.unusedSimpArgs false
def live_there.f (l0_0 : List Bool) (a0_1 : Int) (l0_2 : List (S36)) (a1_0 : Int) (a1_1 : Int) : Option (Bool) := if a1_0 ≥ 0 then (if a1_0 < (l0_2.length : Int) then (if a1_1 ≥ 0 then (if 0 ≤ a1_0 then (some (decide (a1_1 ≤ (((rd_T36 l0_2 a1_0).f0).length : Int)))) else (none)) else (some false)) else (some false)) else (some false)
set_option maxHeartbeats 8000000 in
set_option maxRecDepth 100000 in
theorem live_there.calls (A0_0 : Option Addr) (c0_0 : Nat) (l0_0 : List Bool) (a0_1 : Int) (A0_2 : Option Addr) (c0_2 : Nat) (l0_2 : List (S36)) (a1_0 : Int) (a1_1 : Int) (r : Bool) (w : World) (hr0_0 : Kd.C Kd.bool w A0_0 l0_0.length l0_0) (hc0_0 : l0_0.length ≤ c0_0) (hr0_2 : Kd.C k36 w A0_2 l0_2.length l0_2) (hc0_2 : l0_2.length ≤ c0_2) (h : live_there.f l0_0 a0_1 l0_2 a1_0 a1_1 = some r) :
    Calls Try.prog 59 #[.agg #[.slice A0_0 l0_0.length c0_0, .int .i64 a0_1, .slice A0_2 l0_2.length c0_2], .agg #[.int .i64 a1_0, .int .i64 a1_1]] w fun e w' => e = .returned (.bool r) ∧ Below w.heap.size w w' := by
  have hu25 := Try.underlying25
  have hu41 := Try.underlying41
  have HR0_0 := Aside0.mk hr0_0
  have HC0_0 := Aside0.mk hc0_0
  clear hr0_0 hc0_0
  have HR0_2 := Aside0.mk hr0_2
  have HC0_2 := Aside0.mk hc0_2
  clear hr0_2 hc0_2
  have HB := Aside0.mk (Below.refl w.heap.size w)
  have H : (if a1_0 ≥ 0 then (if a1_0 < (l0_2.length : Int) then (if a1_1 ≥ 0 then (if 0 ≤ a1_0 then (some (decide (a1_1 ≤ (((rd_T36 l0_2 a1_0).f0).length : Int)))) else (none)) else (some false)) else (some false)) else (some false)) = some r := h
  clear h
  by_cases c3 : a1_0 ≥ 0
  · rw [if_pos c3] at H
    have c3b0 : decide (0 ≤ a1_0) = true := decide_eq_true c3
    clear c3
    by_cases c4 : a1_0 < (l0_2.length : Int)
    · rw [if_pos c4] at H
      have c4b0 : decide (a1_0 < (l0_2.length : Int)) = true := decide_eq_true c4
      clear c4
      by_cases c5 : a1_1 ≥ 0
      · rw [if_pos c5] at H
        have c5b0 : decide (0 ≤ a1_1) = true := decide_eq_true c5
        clear c5
        by_cases c6 : 0 ≤ a1_0
        · rw [if_pos c6] at H
          have c6b0 : decide (0 ≤ a1_0) = true := decide_eq_true c6
          clear c6
          obtain rfl := Option.some.inj H
          go_enter Try.func59, Try.ntmps59
          go_wp2_with (first | ((with_reducible refine gate_dst (N := 2) rfl ?_); (try (refine gate_guard (by rfl) ?_; dsimp only)); refine box_event ?hg (N := 2) ?hd (cs := #[.slice A0_0 l0_0.length c0_0, .int .i64 a0_1, .slice A0_2 l0_2.length c0_2]) (t := 25) ?hr ?_; (case hd => rfl); (case hg => rfl); (case hr => first | (go_simp; done) | (go_simp; rfl)); intro gb101 hg w7 hbox hb; have n0_ := Aside0.mk (below_step (by repeat (first | (with_reducible first | exact HB.out | apply below_alloc | apply pw_below_drewN | apply below_drew1) | exact HB.out)) hb); have n1_ := Aside0.mk (hbox); have n2_ := Aside0.mk ((by rw [hg]; exact (below_size (by repeat (first | (with_reducible first | exact HB.out | apply below_alloc | apply pw_below_drewN | apply below_drew1) | exact HB.out))) : w.heap.size ≤ gb101)); have n3_ := Aside0.mk ((by rw [hg]; exact (below_size (by repeat (first | (with_reducible first | exact HB.out | apply below_alloc | apply pw_below_drewN | apply below_drew1) | exact HB.out))) : w.heap.size ≤ gb101)); clear HB; have HB := n0_; have BK101 := n1_; have GW101 := n2_; have GE101 := n3_; clear n0_ n1_ n2_ n3_; clear hb hbox hg) | ((with_reducible refine gate_dst (N := 3) rfl ?_); (try (refine gate_guard (by rfl) ?_; dsimp only)); refine box_event ?hg (N := 3) ?hd (cs := #[.int .i64 a1_0, .int .i64 a1_1]) (t := 41) ?hr ?_; (case hd => rfl); (case hg => rfl); (case hr => first | (go_simp; done) | (go_simp; rfl)); intro gb102 hg w8 hbox hb; have n0_ := Aside0.mk (blk_below (g := gb101) (o := .cells #[.slice A0_0 l0_0.length c0_0, .int .i64 a0_1, .slice A0_2 l0_2.length c0_2] 25 (0, 0)) (by (with_reducible repeat (first | refine blk_drewN ?_ _ | refine blk_drew ?_ | refine blk_alloc ?_ _)); exact BK101.out) hb); have n1_ := Aside0.mk (below_step (by repeat (first | (with_reducible first | exact HB.out | apply below_alloc | apply pw_below_drewN | apply below_drew1 | refine below_set ?_ GE101.out) | exact HB.out)) hb); have n2_ := Aside0.mk (hbox); have n3_ := Aside0.mk ((by rw [hg]; exact (below_size (by repeat (first | (with_reducible first | exact HB.out | apply below_alloc | apply pw_below_drewN | apply below_drew1 | refine below_set ?_ GE101.out) | exact HB.out))) : w.heap.size ≤ gb102)); have n4_ := Aside0.mk ((by rw [hg]; exact (below_size (by repeat (first | (with_reducible first | exact HB.out | apply below_alloc | apply pw_below_drewN | apply below_drew1 | refine below_set ?_ GE101.out) | exact HB.out))) : w.heap.size ≤ gb102)); have n5_ := Aside0.mk ((by rw [hg]; exact Nat.ne_of_lt (blk_lt (g := gb101) (o := .cells #[.slice A0_0 l0_0.length c0_0, .int .i64 a0_1, .slice A0_2 l0_2.length c0_2] 25 (0, 0)) (by (with_reducible repeat (first | refine blk_drewN ?_ _ | refine blk_drew ?_ | refine blk_alloc ?_ _)); exact BK101.out)) : gb101 ≠ gb102)); have n6_ := Aside0.mk ((by rw [hg]; exact Nat.ne_of_gt (blk_lt (g := gb101) (o := .cells #[.slice A0_0 l0_0.length c0_0, .int .i64 a0_1, .slice A0_2 l0_2.length c0_2] 25 (0, 0)) (by (with_reducible repeat (first | refine blk_drewN ?_ _ | refine blk_drew ?_ | refine blk_alloc ?_ _)); exact BK101.out)) : gb102 ≠ gb101)); clear BK101; clear HB; have BK101 := n0_; have HB := n1_; have BK102 := n2_; have GW102 := n3_; have GE102 := n4_; have NB101_102 := n5_; have NB102_101 := n6_; clear n0_ n1_ n2_ n3_ n4_ n5_ n6_; clear hb hbox hg; have hnb9 := NB102_101.out; have hnc9 := NB101_102.out; have hcz10_0 : w8.cell? ⟨gb102, 0, none⟩ = some (.int .i64 a1_0) := (blk_cell BK102.out 0).trans rfl; have hcz10_1 : w8.cell? ⟨gb102, 1, none⟩ = some (.int .i64 a1_1) := (blk_cell BK102.out 1).trans rfl; have hfz10_0 := blk_frozen BK102.out 0; have hfz10_1 := blk_frozen BK102.out 1; have hcz11_0 : w8.cell? ⟨gb101, 0, none⟩ = some (.slice A0_0 l0_0.length c0_0) := (blk_cell BK101.out 0).trans rfl; have hcz11_1 : w8.cell? ⟨gb101, 1, none⟩ = some (.int .i64 a0_1) := (blk_cell BK101.out 1).trans rfl; have hcz11_2 : w8.cell? ⟨gb101, 2, none⟩ = some (.slice A0_2 l0_2.length c0_2) := (blk_cell BK101.out 2).trans rfl; have hfz11_0 := blk_frozen BK101.out 0; have hfz11_1 := blk_frozen BK101.out 1; have hfz11_2 := blk_frozen BK101.out 2; have p103 : 0 ≤ (a1_0 : Int) := of_decide_eq_true (by first | (with_reducible assumption) | assumption); have q103 : a1_0 < (l0_2.length : Int) := of_decide_eq_true (by first | (with_reducible assumption) | assumption); obtain ⟨ad103, A103_0, c103_0, e103, hx103_0, hx103_1, hx103_2, hx103_3, hx103_4, hl103_0, hi103_0⟩ := at_T36 HR0_2.out a1_0 p103 q103; cases e103; replace hx103_0 := (HB.out.cell (World.block_lt_of_cell? w _ hx103_0)).trans hx103_0; replace hx103_1 := (HB.out.cell (World.block_lt_of_cell? w _ hx103_1)).trans hx103_1; replace hx103_2 := (HB.out.cell (World.block_lt_of_cell? w _ hx103_2)).trans hx103_2; replace hx103_3 := (HB.out.cell (World.block_lt_of_cell? w _ hx103_3)).trans hx103_3; replace hx103_4 := (HB.out.cell (World.block_lt_of_cell? w _ hx103_4)).trans hx103_4; have HR103_0 := Aside0.mk hi103_0; have HC103_0 := Aside0.mk hl103_0; clear hi103_0 hl103_0; replace p103 := eq_true p103; replace q103 := eq_true q103))
          repeat (go_quiet (first | ((with_reducible refine gate_dst (N := 2) rfl ?_); (try (refine gate_guard (by rfl) ?_; dsimp only)); refine box_event ?hg (N := 2) ?hd (cs := #[.slice A0_0 l0_0.length c0_0, .int .i64 a0_1, .slice A0_2 l0_2.length c0_2]) (t := 25) ?hr ?_; (case hd => rfl); (case hg => rfl); (case hr => first | (go_simp; done) | (go_simp; rfl)); intro gb101 hg w7 hbox hb; have n0_ := Aside0.mk (below_step (by repeat (first | (with_reducible first | exact HB.out | apply below_alloc | apply pw_below_drewN | apply below_drew1) | exact HB.out)) hb); have n1_ := Aside0.mk (hbox); have n2_ := Aside0.mk ((by rw [hg]; exact (below_size (by repeat (first | (with_reducible first | exact HB.out | apply below_alloc | apply pw_below_drewN | apply below_drew1) | exact HB.out))) : w.heap.size ≤ gb101)); have n3_ := Aside0.mk ((by rw [hg]; exact (below_size (by repeat (first | (with_reducible first | exact HB.out | apply below_alloc | apply pw_below_drewN | apply below_drew1) | exact HB.out))) : w.heap.size ≤ gb101)); clear HB; have HB := n0_; have BK101 := n1_; have GW101 := n2_; have GE101 := n3_; clear n0_ n1_ n2_ n3_; clear hb hbox hg) | ((with_reducible refine gate_dst (N := 3) rfl ?_); (try (refine gate_guard (by rfl) ?_; dsimp only)); refine box_event ?hg (N := 3) ?hd (cs := #[.int .i64 a1_0, .int .i64 a1_1]) (t := 41) ?hr ?_; (case hd => rfl); (case hg => rfl); (case hr => first | (go_simp; done) | (go_simp; rfl)); intro gb102 hg w8 hbox hb; have n0_ := Aside0.mk (blk_below (g := gb101) (o := .cells #[.slice A0_0 l0_0.length c0_0, .int .i64 a0_1, .slice A0_2 l0_2.length c0_2] 25 (0, 0)) (by (with_reducible repeat (first | refine blk_drewN ?_ _ | refine blk_drew ?_ | refine blk_alloc ?_ _)); exact BK101.out) hb); have n1_ := Aside0.mk (below_step (by repeat (first | (with_reducible first | exact HB.out | apply below_alloc | apply pw_below_drewN | apply below_drew1 | refine below_set ?_ GE101.out) | exact HB.out)) hb); have n2_ := Aside0.mk (hbox); have n3_ := Aside0.mk ((by rw [hg]; exact (below_size (by repeat (first | (with_reducible first | exact HB.out | apply below_alloc | apply pw_below_drewN | apply below_drew1 | refine below_set ?_ GE101.out) | exact HB.out))) : w.heap.size ≤ gb102)); have n4_ := Aside0.mk ((by rw [hg]; exact (below_size (by repeat (first | (with_reducible first | exact HB.out | apply below_alloc | apply pw_below_drewN | apply below_drew1 | refine below_set ?_ GE101.out) | exact HB.out))) : w.heap.size ≤ gb102)); have n5_ := Aside0.mk ((by rw [hg]; exact Nat.ne_of_lt (blk_lt (g := gb101) (o := .cells #[.slice A0_0 l0_0.length c0_0, .int .i64 a0_1, .slice A0_2 l0_2.length c0_2] 25 (0, 0)) (by (with_reducible repeat (first | refine blk_drewN ?_ _ | refine blk_drew ?_ | refine blk_alloc ?_ _)); exact BK101.out)) : gb101 ≠ gb102)); have n6_ := Aside0.mk ((by rw [hg]; exact Nat.ne_of_gt (blk_lt (g := gb101) (o := .cells #[.slice A0_0 l0_0.length c0_0, .int .i64 a0_1, .slice A0_2 l0_2.length c0_2] 25 (0, 0)) (by (with_reducible repeat (first | refine blk_drewN ?_ _ | refine blk_drew ?_ | refine blk_alloc ?_ _)); exact BK101.out)) : gb102 ≠ gb101)); clear BK101; clear HB; have BK101 := n0_; have HB := n1_; have BK102 := n2_; have GW102 := n3_; have GE102 := n4_; have NB101_102 := n5_; have NB102_101 := n6_; clear n0_ n1_ n2_ n3_ n4_ n5_ n6_; clear hb hbox hg; have hnb9 := NB102_101.out; have hnc9 := NB101_102.out; have hcz10_0 : w8.cell? ⟨gb102, 0, none⟩ = some (.int .i64 a1_0) := (blk_cell BK102.out 0).trans rfl; have hcz10_1 : w8.cell? ⟨gb102, 1, none⟩ = some (.int .i64 a1_1) := (blk_cell BK102.out 1).trans rfl; have hfz10_0 := blk_frozen BK102.out 0; have hfz10_1 := blk_frozen BK102.out 1; have hcz11_0 : w8.cell? ⟨gb101, 0, none⟩ = some (.slice A0_0 l0_0.length c0_0) := (blk_cell BK101.out 0).trans rfl; have hcz11_1 : w8.cell? ⟨gb101, 1, none⟩ = some (.int .i64 a0_1) := (blk_cell BK101.out 1).trans rfl; have hcz11_2 : w8.cell? ⟨gb101, 2, none⟩ = some (.slice A0_2 l0_2.length c0_2) := (blk_cell BK101.out 2).trans rfl; have hfz11_0 := blk_frozen BK101.out 0; have hfz11_1 := blk_frozen BK101.out 1; have hfz11_2 := blk_frozen BK101.out 2; have p103 : 0 ≤ (a1_0 : Int) := of_decide_eq_true (by first | (with_reducible assumption) | assumption); have q103 : a1_0 < (l0_2.length : Int) := of_decide_eq_true (by first | (with_reducible assumption) | assumption); obtain ⟨ad103, A103_0, c103_0, e103, hx103_0, hx103_1, hx103_2, hx103_3, hx103_4, hl103_0, hi103_0⟩ := at_T36 HR0_2.out a1_0 p103 q103; cases e103; replace hx103_0 := (HB.out.cell (World.block_lt_of_cell? w _ hx103_0)).trans hx103_0; replace hx103_1 := (HB.out.cell (World.block_lt_of_cell? w _ hx103_1)).trans hx103_1; replace hx103_2 := (HB.out.cell (World.block_lt_of_cell? w _ hx103_2)).trans hx103_2; replace hx103_3 := (HB.out.cell (World.block_lt_of_cell? w _ hx103_3)).trans hx103_3; replace hx103_4 := (HB.out.cell (World.block_lt_of_cell? w _ hx103_4)).trans hx103_4; have HR103_0 := Aside0.mk hi103_0; have HC103_0 := Aside0.mk hl103_0; clear hi103_0 hl103_0; replace p103 := eq_true p103; replace q103 := eq_true q103)); try go_wp2_with (first | ((with_reducible refine gate_dst (N := 2) rfl ?_); (try (refine gate_guard (by rfl) ?_; dsimp only)); refine box_event ?hg (N := 2) ?hd (cs := #[.slice A0_0 l0_0.length c0_0, .int .i64 a0_1, .slice A0_2 l0_2.length c0_2]) (t := 25) ?hr ?_; (case hd => rfl); (case hg => rfl); (case hr => first | (go_simp; done) | (go_simp; rfl)); intro gb101 hg w7 hbox hb; have n0_ := Aside0.mk (below_step (by repeat (first | (with_reducible first | exact HB.out | apply below_alloc | apply pw_below_drewN | apply below_drew1) | exact HB.out)) hb); have n1_ := Aside0.mk (hbox); have n2_ := Aside0.mk ((by rw [hg]; exact (below_size (by repeat (first | (with_reducible first | exact HB.out | apply below_alloc | apply pw_below_drewN | apply below_drew1) | exact HB.out))) : w.heap.size ≤ gb101)); have n3_ := Aside0.mk ((by rw [hg]; exact (below_size (by repeat (first | (with_reducible first | exact HB.out | apply below_alloc | apply pw_below_drewN | apply below_drew1) | exact HB.out))) : w.heap.size ≤ gb101)); clear HB; have HB := n0_; have BK101 := n1_; have GW101 := n2_; have GE101 := n3_; clear n0_ n1_ n2_ n3_; clear hb hbox hg) | ((with_reducible refine gate_dst (N := 3) rfl ?_); (try (refine gate_guard (by rfl) ?_; dsimp only)); refine box_event ?hg (N := 3) ?hd (cs := #[.int .i64 a1_0, .int .i64 a1_1]) (t := 41) ?hr ?_; (case hd => rfl); (case hg => rfl); (case hr => first | (go_simp; done) | (go_simp; rfl)); intro gb102 hg w8 hbox hb; have n0_ := Aside0.mk (blk_below (g := gb101) (o := .cells #[.slice A0_0 l0_0.length c0_0, .int .i64 a0_1, .slice A0_2 l0_2.length c0_2] 25 (0, 0)) (by (with_reducible repeat (first | refine blk_drewN ?_ _ | refine blk_drew ?_ | refine blk_alloc ?_ _)); exact BK101.out) hb); have n1_ := Aside0.mk (below_step (by repeat (first | (with_reducible first | exact HB.out | apply below_alloc | apply pw_below_drewN | apply below_drew1 | refine below_set ?_ GE101.out) | exact HB.out)) hb); have n2_ := Aside0.mk (hbox); have n3_ := Aside0.mk ((by rw [hg]; exact (below_size (by repeat (first | (with_reducible first | exact HB.out | apply below_alloc | apply pw_below_drewN | apply below_drew1 | refine below_set ?_ GE101.out) | exact HB.out))) : w.heap.size ≤ gb102)); have n4_ := Aside0.mk ((by rw [hg]; exact (below_size (by repeat (first | (with_reducible first | exact HB.out | apply below_alloc | apply pw_below_drewN | apply below_drew1 | refine below_set ?_ GE101.out) | exact HB.out))) : w.heap.size ≤ gb102)); have n5_ := Aside0.mk ((by rw [hg]; exact Nat.ne_of_lt (blk_lt (g := gb101) (o := .cells #[.slice A0_0 l0_0.length c0_0, .int .i64 a0_1, .slice A0_2 l0_2.length c0_2] 25 (0, 0)) (by (with_reducible repeat (first | refine blk_drewN ?_ _ | refine blk_drew ?_ | refine blk_alloc ?_ _)); exact BK101.out)) : gb101 ≠ gb102)); have n6_ := Aside0.mk ((by rw [hg]; exact Nat.ne_of_gt (blk_lt (g := gb101) (o := .cells #[.slice A0_0 l0_0.length c0_0, .int .i64 a0_1, .slice A0_2 l0_2.length c0_2] 25 (0, 0)) (by (with_reducible repeat (first | refine blk_drewN ?_ _ | refine blk_drew ?_ | refine blk_alloc ?_ _)); exact BK101.out)) : gb102 ≠ gb101)); clear BK101; clear HB; have BK101 := n0_; have HB := n1_; have BK102 := n2_; have GW102 := n3_; have GE102 := n4_; have NB101_102 := n5_; have NB102_101 := n6_; clear n0_ n1_ n2_ n3_ n4_ n5_ n6_; clear hb hbox hg; have hnb9 := NB102_101.out; have hnc9 := NB101_102.out; have hcz10_0 : w8.cell? ⟨gb102, 0, none⟩ = some (.int .i64 a1_0) := (blk_cell BK102.out 0).trans rfl; have hcz10_1 : w8.cell? ⟨gb102, 1, none⟩ = some (.int .i64 a1_1) := (blk_cell BK102.out 1).trans rfl; have hfz10_0 := blk_frozen BK102.out 0; have hfz10_1 := blk_frozen BK102.out 1; have hcz11_0 : w8.cell? ⟨gb101, 0, none⟩ = some (.slice A0_0 l0_0.length c0_0) := (blk_cell BK101.out 0).trans rfl; have hcz11_1 : w8.cell? ⟨gb101, 1, none⟩ = some (.int .i64 a0_1) := (blk_cell BK101.out 1).trans rfl; have hcz11_2 : w8.cell? ⟨gb101, 2, none⟩ = some (.slice A0_2 l0_2.length c0_2) := (blk_cell BK101.out 2).trans rfl; have hfz11_0 := blk_frozen BK101.out 0; have hfz11_1 := blk_frozen BK101.out 1; have hfz11_2 := blk_frozen BK101.out 2; have p103 : 0 ≤ (a1_0 : Int) := of_decide_eq_true (by first | (with_reducible assumption) | assumption); have q103 : a1_0 < (l0_2.length : Int) := of_decide_eq_true (by first | (with_reducible assumption) | assumption); obtain ⟨ad103, A103_0, c103_0, e103, hx103_0, hx103_1, hx103_2, hx103_3, hx103_4, hl103_0, hi103_0⟩ := at_T36 HR0_2.out a1_0 p103 q103; cases e103; replace hx103_0 := (HB.out.cell (World.block_lt_of_cell? w _ hx103_0)).trans hx103_0; replace hx103_1 := (HB.out.cell (World.block_lt_of_cell? w _ hx103_1)).trans hx103_1; replace hx103_2 := (HB.out.cell (World.block_lt_of_cell? w _ hx103_2)).trans hx103_2; replace hx103_3 := (HB.out.cell (World.block_lt_of_cell? w _ hx103_3)).trans hx103_3; replace hx103_4 := (HB.out.cell (World.block_lt_of_cell? w _ hx103_4)).trans hx103_4; have HR103_0 := Aside0.mk hi103_0; have HC103_0 := Aside0.mk hl103_0; clear hi103_0 hl103_0; replace p103 := eq_true p103; replace q103 := eq_true q103)))
          go_ret
          exact ⟨by first | rfl | (simp [errW_none, errW_some] <;> rfl) | (simp [*, errW_none, errW_some] <;> rfl), by repeat (first | (with_reducible first | exact HB.out | apply below_alloc | apply pw_below_drewN | apply below_drew1 | refine below_set ?_ GE101.out | refine below_set ?_ GE102.out) | exact HB.out)⟩
        · rw [if_neg c6] at H
          exact absurd H (by simp)
      · rw [if_neg c5] at H
        have c5b0 : decide (0 ≤ a1_1) = false := decide_eq_false c5
        clear c5
        obtain rfl := Option.some.inj H
        go_enter Try.func59, Try.ntmps59
        go_wp2_with (first | ((with_reducible refine gate_dst (N := 2) rfl ?_); (try (refine gate_guard (by rfl) ?_; dsimp only)); refine box_event ?hg (N := 2) ?hd (cs := #[.slice A0_0 l0_0.length c0_0, .int .i64 a0_1, .slice A0_2 l0_2.length c0_2]) (t := 25) ?hr ?_; (case hd => rfl); (case hg => rfl); (case hr => first | (go_simp; done) | (go_simp; rfl)); intro gb101 hg w12 hbox hb; have n0_ := Aside0.mk (below_step (by repeat (first | (with_reducible first | exact HB.out | apply below_alloc | apply pw_below_drewN | apply below_drew1) | exact HB.out)) hb); have n1_ := Aside0.mk (hbox); have n2_ := Aside0.mk ((by rw [hg]; exact (below_size (by repeat (first | (with_reducible first | exact HB.out | apply below_alloc | apply pw_below_drewN | apply below_drew1) | exact HB.out))) : w.heap.size ≤ gb101)); have n3_ := Aside0.mk ((by rw [hg]; exact (below_size (by repeat (first | (with_reducible first | exact HB.out | apply below_alloc | apply pw_below_drewN | apply below_drew1) | exact HB.out))) : w.heap.size ≤ gb101)); clear HB; have HB := n0_; have BK101 := n1_; have GW101 := n2_; have GE101 := n3_; clear n0_ n1_ n2_ n3_; clear hb hbox hg) | ((with_reducible refine gate_dst (N := 3) rfl ?_); (try (refine gate_guard (by rfl) ?_; dsimp only)); refine box_event ?hg (N := 3) ?hd (cs := #[.int .i64 a1_0, .int .i64 a1_1]) (t := 41) ?hr ?_; (case hd => rfl); (case hg => rfl); (case hr => first | (go_simp; done) | (go_simp; rfl)); intro gb102 hg w13 hbox hb; have n0_ := Aside0.mk (blk_below (g := gb101) (o := .cells #[.slice A0_0 l0_0.length c0_0, .int .i64 a0_1, .slice A0_2 l0_2.length c0_2] 25 (0, 0)) (by (with_reducible repeat (first | refine blk_drewN ?_ _ | refine blk_drew ?_ | refine blk_alloc ?_ _)); exact BK101.out) hb); have n1_ := Aside0.mk (below_step (by repeat (first | (with_reducible first | exact HB.out | apply below_alloc | apply pw_below_drewN | apply below_drew1 | refine below_set ?_ GE101.out) | exact HB.out)) hb); have n2_ := Aside0.mk (hbox); have n3_ := Aside0.mk ((by rw [hg]; exact (below_size (by repeat (first | (with_reducible first | exact HB.out | apply below_alloc | apply pw_below_drewN | apply below_drew1 | refine below_set ?_ GE101.out) | exact HB.out))) : w.heap.size ≤ gb102)); have n4_ := Aside0.mk ((by rw [hg]; exact (below_size (by repeat (first | (with_reducible first | exact HB.out | apply below_alloc | apply pw_below_drewN | apply below_drew1 | refine below_set ?_ GE101.out) | exact HB.out))) : w.heap.size ≤ gb102)); have n5_ := Aside0.mk ((by rw [hg]; exact Nat.ne_of_lt (blk_lt (g := gb101) (o := .cells #[.slice A0_0 l0_0.length c0_0, .int .i64 a0_1, .slice A0_2 l0_2.length c0_2] 25 (0, 0)) (by (with_reducible repeat (first | refine blk_drewN ?_ _ | refine blk_drew ?_ | refine blk_alloc ?_ _)); exact BK101.out)) : gb101 ≠ gb102)); have n6_ := Aside0.mk ((by rw [hg]; exact Nat.ne_of_gt (blk_lt (g := gb101) (o := .cells #[.slice A0_0 l0_0.length c0_0, .int .i64 a0_1, .slice A0_2 l0_2.length c0_2] 25 (0, 0)) (by (with_reducible repeat (first | refine blk_drewN ?_ _ | refine blk_drew ?_ | refine blk_alloc ?_ _)); exact BK101.out)) : gb102 ≠ gb101)); clear BK101; clear HB; have BK101 := n0_; have HB := n1_; have BK102 := n2_; have GW102 := n3_; have GE102 := n4_; have NB101_102 := n5_; have NB102_101 := n6_; clear n0_ n1_ n2_ n3_ n4_ n5_ n6_; clear hb hbox hg; have hnb14 := NB102_101.out; have hnc14 := NB101_102.out; have hcz15_0 : w13.cell? ⟨gb102, 0, none⟩ = some (.int .i64 a1_0) := (blk_cell BK102.out 0).trans rfl; have hcz15_1 : w13.cell? ⟨gb102, 1, none⟩ = some (.int .i64 a1_1) := (blk_cell BK102.out 1).trans rfl; have hfz15_0 := blk_frozen BK102.out 0; have hfz15_1 := blk_frozen BK102.out 1; have hcz16_0 : w13.cell? ⟨gb101, 0, none⟩ = some (.slice A0_0 l0_0.length c0_0) := (blk_cell BK101.out 0).trans rfl; have hcz16_1 : w13.cell? ⟨gb101, 1, none⟩ = some (.int .i64 a0_1) := (blk_cell BK101.out 1).trans rfl; have hcz16_2 : w13.cell? ⟨gb101, 2, none⟩ = some (.slice A0_2 l0_2.length c0_2) := (blk_cell BK101.out 2).trans rfl; have hfz16_0 := blk_frozen BK101.out 0; have hfz16_1 := blk_frozen BK101.out 1; have hfz16_2 := blk_frozen BK101.out 2))
        repeat (go_quiet (first | ((with_reducible refine gate_dst (N := 2) rfl ?_); (try (refine gate_guard (by rfl) ?_; dsimp only)); refine box_event ?hg (N := 2) ?hd (cs := #[.slice A0_0 l0_0.length c0_0, .int .i64 a0_1, .slice A0_2 l0_2.length c0_2]) (t := 25) ?hr ?_; (case hd => rfl); (case hg => rfl); (case hr => first | (go_simp; done) | (go_simp; rfl)); intro gb101 hg w12 hbox hb; have n0_ := Aside0.mk (below_step (by repeat (first | (with_reducible first | exact HB.out | apply below_alloc | apply pw_below_drewN | apply below_drew1) | exact HB.out)) hb); have n1_ := Aside0.mk (hbox); have n2_ := Aside0.mk ((by rw [hg]; exact (below_size (by repeat (first | (with_reducible first | exact HB.out | apply below_alloc | apply pw_below_drewN | apply below_drew1) | exact HB.out))) : w.heap.size ≤ gb101)); have n3_ := Aside0.mk ((by rw [hg]; exact (below_size (by repeat (first | (with_reducible first | exact HB.out | apply below_alloc | apply pw_below_drewN | apply below_drew1) | exact HB.out))) : w.heap.size ≤ gb101)); clear HB; have HB := n0_; have BK101 := n1_; have GW101 := n2_; have GE101 := n3_; clear n0_ n1_ n2_ n3_; clear hb hbox hg) | ((with_reducible refine gate_dst (N := 3) rfl ?_); (try (refine gate_guard (by rfl) ?_; dsimp only)); refine box_event ?hg (N := 3) ?hd (cs := #[.int .i64 a1_0, .int .i64 a1_1]) (t := 41) ?hr ?_; (case hd => rfl); (case hg => rfl); (case hr => first | (go_simp; done) | (go_simp; rfl)); intro gb102 hg w13 hbox hb; have n0_ := Aside0.mk (blk_below (g := gb101) (o := .cells #[.slice A0_0 l0_0.length c0_0, .int .i64 a0_1, .slice A0_2 l0_2.length c0_2] 25 (0, 0)) (by (with_reducible repeat (first | refine blk_drewN ?_ _ | refine blk_drew ?_ | refine blk_alloc ?_ _)); exact BK101.out) hb); have n1_ := Aside0.mk (below_step (by repeat (first | (with_reducible first | exact HB.out | apply below_alloc | apply pw_below_drewN | apply below_drew1 | refine below_set ?_ GE101.out) | exact HB.out)) hb); have n2_ := Aside0.mk (hbox); have n3_ := Aside0.mk ((by rw [hg]; exact (below_size (by repeat (first | (with_reducible first | exact HB.out | apply below_alloc | apply pw_below_drewN | apply below_drew1 | refine below_set ?_ GE101.out) | exact HB.out))) : w.heap.size ≤ gb102)); have n4_ := Aside0.mk ((by rw [hg]; exact (below_size (by repeat (first | (with_reducible first | exact HB.out | apply below_alloc | apply pw_below_drewN | apply below_drew1 | refine below_set ?_ GE101.out) | exact HB.out))) : w.heap.size ≤ gb102)); have n5_ := Aside0.mk ((by rw [hg]; exact Nat.ne_of_lt (blk_lt (g := gb101) (o := .cells #[.slice A0_0 l0_0.length c0_0, .int .i64 a0_1, .slice A0_2 l0_2.length c0_2] 25 (0, 0)) (by (with_reducible repeat (first | refine blk_drewN ?_ _ | refine blk_drew ?_ | refine blk_alloc ?_ _)); exact BK101.out)) : gb101 ≠ gb102)); have n6_ := Aside0.mk ((by rw [hg]; exact Nat.ne_of_gt (blk_lt (g := gb101) (o := .cells #[.slice A0_0 l0_0.length c0_0, .int .i64 a0_1, .slice A0_2 l0_2.length c0_2] 25 (0, 0)) (by (with_reducible repeat (first | refine blk_drewN ?_ _ | refine blk_drew ?_ | refine blk_alloc ?_ _)); exact BK101.out)) : gb102 ≠ gb101)); clear BK101; clear HB; have BK101 := n0_; have HB := n1_; have BK102 := n2_; have GW102 := n3_; have GE102 := n4_; have NB101_102 := n5_; have NB102_101 := n6_; clear n0_ n1_ n2_ n3_ n4_ n5_ n6_; clear hb hbox hg; have hnb14 := NB102_101.out; have hnc14 := NB101_102.out; have hcz15_0 : w13.cell? ⟨gb102, 0, none⟩ = some (.int .i64 a1_0) := (blk_cell BK102.out 0).trans rfl; have hcz15_1 : w13.cell? ⟨gb102, 1, none⟩ = some (.int .i64 a1_1) := (blk_cell BK102.out 1).trans rfl; have hfz15_0 := blk_frozen BK102.out 0; have hfz15_1 := blk_frozen BK102.out 1; have hcz16_0 : w13.cell? ⟨gb101, 0, none⟩ = some (.slice A0_0 l0_0.length c0_0) := (blk_cell BK101.out 0).trans rfl; have hcz16_1 : w13.cell? ⟨gb101, 1, none⟩ = some (.int .i64 a0_1) := (blk_cell BK101.out 1).trans rfl; have hcz16_2 : w13.cell? ⟨gb101, 2, none⟩ = some (.slice A0_2 l0_2.length c0_2) := (blk_cell BK101.out 2).trans rfl; have hfz16_0 := blk_frozen BK101.out 0; have hfz16_1 := blk_frozen BK101.out 1; have hfz16_2 := blk_frozen BK101.out 2)); try go_wp2_with (first | ((with_reducible refine gate_dst (N := 2) rfl ?_); (try (refine gate_guard (by rfl) ?_; dsimp only)); refine box_event ?hg (N := 2) ?hd (cs := #[.slice A0_0 l0_0.length c0_0, .int .i64 a0_1, .slice A0_2 l0_2.length c0_2]) (t := 25) ?hr ?_; (case hd => rfl); (case hg => rfl); (case hr => first | (go_simp; done) | (go_simp; rfl)); intro gb101 hg w12 hbox hb; have n0_ := Aside0.mk (below_step (by repeat (first | (with_reducible first | exact HB.out | apply below_alloc | apply pw_below_drewN | apply below_drew1) | exact HB.out)) hb); have n1_ := Aside0.mk (hbox); have n2_ := Aside0.mk ((by rw [hg]; exact (below_size (by repeat (first | (with_reducible first | exact HB.out | apply below_alloc | apply pw_below_drewN | apply below_drew1) | exact HB.out))) : w.heap.size ≤ gb101)); have n3_ := Aside0.mk ((by rw [hg]; exact (below_size (by repeat (first | (with_reducible first | exact HB.out | apply below_alloc | apply pw_below_drewN | apply below_drew1) | exact HB.out))) : w.heap.size ≤ gb101)); clear HB; have HB := n0_; have BK101 := n1_; have GW101 := n2_; have GE101 := n3_; clear n0_ n1_ n2_ n3_; clear hb hbox hg) | ((with_reducible refine gate_dst (N := 3) rfl ?_); (try (refine gate_guard (by rfl) ?_; dsimp only)); refine box_event ?hg (N := 3) ?hd (cs := #[.int .i64 a1_0, .int .i64 a1_1]) (t := 41) ?hr ?_; (case hd => rfl); (case hg => rfl); (case hr => first | (go_simp; done) | (go_simp; rfl)); intro gb102 hg w13 hbox hb; have n0_ := Aside0.mk (blk_below (g := gb101) (o := .cells #[.slice A0_0 l0_0.length c0_0, .int .i64 a0_1, .slice A0_2 l0_2.length c0_2] 25 (0, 0)) (by (with_reducible repeat (first | refine blk_drewN ?_ _ | refine blk_drew ?_ | refine blk_alloc ?_ _)); exact BK101.out) hb); have n1_ := Aside0.mk (below_step (by repeat (first | (with_reducible first | exact HB.out | apply below_alloc | apply pw_below_drewN | apply below_drew1 | refine below_set ?_ GE101.out) | exact HB.out)) hb); have n2_ := Aside0.mk (hbox); have n3_ := Aside0.mk ((by rw [hg]; exact (below_size (by repeat (first | (with_reducible first | exact HB.out | apply below_alloc | apply pw_below_drewN | apply below_drew1 | refine below_set ?_ GE101.out) | exact HB.out))) : w.heap.size ≤ gb102)); have n4_ := Aside0.mk ((by rw [hg]; exact (below_size (by repeat (first | (with_reducible first | exact HB.out | apply below_alloc | apply pw_below_drewN | apply below_drew1 | refine below_set ?_ GE101.out) | exact HB.out))) : w.heap.size ≤ gb102)); have n5_ := Aside0.mk ((by rw [hg]; exact Nat.ne_of_lt (blk_lt (g := gb101) (o := .cells #[.slice A0_0 l0_0.length c0_0, .int .i64 a0_1, .slice A0_2 l0_2.length c0_2] 25 (0, 0)) (by (with_reducible repeat (first | refine blk_drewN ?_ _ | refine blk_drew ?_ | refine blk_alloc ?_ _)); exact BK101.out)) : gb101 ≠ gb102)); have n6_ := Aside0.mk ((by rw [hg]; exact Nat.ne_of_gt (blk_lt (g := gb101) (o := .cells #[.slice A0_0 l0_0.length c0_0, .int .i64 a0_1, .slice A0_2 l0_2.length c0_2] 25 (0, 0)) (by (with_reducible repeat (first | refine blk_drewN ?_ _ | refine blk_drew ?_ | refine blk_alloc ?_ _)); exact BK101.out)) : gb102 ≠ gb101)); clear BK101; clear HB; have BK101 := n0_; have HB := n1_; have BK102 := n2_; have GW102 := n3_; have GE102 := n4_; have NB101_102 := n5_; have NB102_101 := n6_; clear n0_ n1_ n2_ n3_ n4_ n5_ n6_; clear hb hbox hg; have hnb14 := NB102_101.out; have hnc14 := NB101_102.out; have hcz15_0 : w13.cell? ⟨gb102, 0, none⟩ = some (.int .i64 a1_0) := (blk_cell BK102.out 0).trans rfl; have hcz15_1 : w13.cell? ⟨gb102, 1, none⟩ = some (.int .i64 a1_1) := (blk_cell BK102.out 1).trans rfl; have hfz15_0 := blk_frozen BK102.out 0; have hfz15_1 := blk_frozen BK102.out 1; have hcz16_0 : w13.cell? ⟨gb101, 0, none⟩ = some (.slice A0_0 l0_0.length c0_0) := (blk_cell BK101.out 0).trans rfl; have hcz16_1 : w13.cell? ⟨gb101, 1, none⟩ = some (.int .i64 a0_1) := (blk_cell BK101.out 1).trans rfl; have hcz16_2 : w13.cell? ⟨gb101, 2, none⟩ = some (.slice A0_2 l0_2.length c0_2) := (blk_cell BK101.out 2).trans rfl; have hfz16_0 := blk_frozen BK101.out 0; have hfz16_1 := blk_frozen BK101.out 1; have hfz16_2 := blk_frozen BK101.out 2)))
        go_ret
        exact ⟨by first | rfl | (simp [errW_none, errW_some] <;> rfl) | (simp [*, errW_none, errW_some] <;> rfl), by repeat (first | (with_reducible first | exact HB.out | apply below_alloc | apply pw_below_drewN | apply below_drew1 | refine below_set ?_ GE101.out | refine below_set ?_ GE102.out) | exact HB.out)⟩
    · rw [if_neg c4] at H
      have c4b0 : decide (a1_0 < (l0_2.length : Int)) = false := decide_eq_false c4
      clear c4
      obtain rfl := Option.some.inj H
      go_enter Try.func59, Try.ntmps59
      go_wp2_with (first | ((with_reducible refine gate_dst (N := 2) rfl ?_); (try (refine gate_guard (by rfl) ?_; dsimp only)); refine box_event ?hg (N := 2) ?hd (cs := #[.slice A0_0 l0_0.length c0_0, .int .i64 a0_1, .slice A0_2 l0_2.length c0_2]) (t := 25) ?hr ?_; (case hd => rfl); (case hg => rfl); (case hr => first | (go_simp; done) | (go_simp; rfl)); intro gb101 hg w17 hbox hb; have n0_ := Aside0.mk (below_step (by repeat (first | (with_reducible first | exact HB.out | apply below_alloc | apply pw_below_drewN | apply below_drew1) | exact HB.out)) hb); have n1_ := Aside0.mk (hbox); have n2_ := Aside0.mk ((by rw [hg]; exact (below_size (by repeat (first | (with_reducible first | exact HB.out | apply below_alloc | apply pw_below_drewN | apply below_drew1) | exact HB.out))) : w.heap.size ≤ gb101)); have n3_ := Aside0.mk ((by rw [hg]; exact (below_size (by repeat (first | (with_reducible first | exact HB.out | apply below_alloc | apply pw_below_drewN | apply below_drew1) | exact HB.out))) : w.heap.size ≤ gb101)); clear HB; have HB := n0_; have BK101 := n1_; have GW101 := n2_; have GE101 := n3_; clear n0_ n1_ n2_ n3_; clear hb hbox hg) | ((with_reducible refine gate_dst (N := 3) rfl ?_); (try (refine gate_guard (by rfl) ?_; dsimp only)); refine box_event ?hg (N := 3) ?hd (cs := #[.int .i64 a1_0, .int .i64 a1_1]) (t := 41) ?hr ?_; (case hd => rfl); (case hg => rfl); (case hr => first | (go_simp; done) | (go_simp; rfl)); intro gb102 hg w18 hbox hb; have n0_ := Aside0.mk (blk_below (g := gb101) (o := .cells #[.slice A0_0 l0_0.length c0_0, .int .i64 a0_1, .slice A0_2 l0_2.length c0_2] 25 (0, 0)) (by (with_reducible repeat (first | refine blk_drewN ?_ _ | refine blk_drew ?_ | refine blk_alloc ?_ _)); exact BK101.out) hb); have n1_ := Aside0.mk (below_step (by repeat (first | (with_reducible first | exact HB.out | apply below_alloc | apply pw_below_drewN | apply below_drew1 | refine below_set ?_ GE101.out) | exact HB.out)) hb); have n2_ := Aside0.mk (hbox); have n3_ := Aside0.mk ((by rw [hg]; exact (below_size (by repeat (first | (with_reducible first | exact HB.out | apply below_alloc | apply pw_below_drewN | apply below_drew1 | refine below_set ?_ GE101.out) | exact HB.out))) : w.heap.size ≤ gb102)); have n4_ := Aside0.mk ((by rw [hg]; exact (below_size (by repeat (first | (with_reducible first | exact HB.out | apply below_alloc | apply pw_below_drewN | apply below_drew1 | refine below_set ?_ GE101.out) | exact HB.out))) : w.heap.size ≤ gb102)); have n5_ := Aside0.mk ((by rw [hg]; exact Nat.ne_of_lt (blk_lt (g := gb101) (o := .cells #[.slice A0_0 l0_0.length c0_0, .int .i64 a0_1, .slice A0_2 l0_2.length c0_2] 25 (0, 0)) (by (with_reducible repeat (first | refine blk_drewN ?_ _ | refine blk_drew ?_ | refine blk_alloc ?_ _)); exact BK101.out)) : gb101 ≠ gb102)); have n6_ := Aside0.mk ((by rw [hg]; exact Nat.ne_of_gt (blk_lt (g := gb101) (o := .cells #[.slice A0_0 l0_0.length c0_0, .int .i64 a0_1, .slice A0_2 l0_2.length c0_2] 25 (0, 0)) (by (with_reducible repeat (first | refine blk_drewN ?_ _ | refine blk_drew ?_ | refine blk_alloc ?_ _)); exact BK101.out)) : gb102 ≠ gb101)); clear BK101; clear HB; have BK101 := n0_; have HB := n1_; have BK102 := n2_; have GW102 := n3_; have GE102 := n4_; have NB101_102 := n5_; have NB102_101 := n6_; clear n0_ n1_ n2_ n3_ n4_ n5_ n6_; clear hb hbox hg; have hnb19 := NB102_101.out; have hnc19 := NB101_102.out; have hcz20_0 : w18.cell? ⟨gb102, 0, none⟩ = some (.int .i64 a1_0) := (blk_cell BK102.out 0).trans rfl; have hcz20_1 : w18.cell? ⟨gb102, 1, none⟩ = some (.int .i64 a1_1) := (blk_cell BK102.out 1).trans rfl; have hfz20_0 := blk_frozen BK102.out 0; have hfz20_1 := blk_frozen BK102.out 1; have hcz21_0 : w18.cell? ⟨gb101, 0, none⟩ = some (.slice A0_0 l0_0.length c0_0) := (blk_cell BK101.out 0).trans rfl; have hcz21_1 : w18.cell? ⟨gb101, 1, none⟩ = some (.int .i64 a0_1) := (blk_cell BK101.out 1).trans rfl; have hcz21_2 : w18.cell? ⟨gb101, 2, none⟩ = some (.slice A0_2 l0_2.length c0_2) := (blk_cell BK101.out 2).trans rfl; have hfz21_0 := blk_frozen BK101.out 0; have hfz21_1 := blk_frozen BK101.out 1; have hfz21_2 := blk_frozen BK101.out 2))
      repeat (go_quiet (first | ((with_reducible refine gate_dst (N := 2) rfl ?_); (try (refine gate_guard (by rfl) ?_; dsimp only)); refine box_event ?hg (N := 2) ?hd (cs := #[.slice A0_0 l0_0.length c0_0, .int .i64 a0_1, .slice A0_2 l0_2.length c0_2]) (t := 25) ?hr ?_; (case hd => rfl); (case hg => rfl); (case hr => first | (go_simp; done) | (go_simp; rfl)); intro gb101 hg w17 hbox hb; have n0_ := Aside0.mk (below_step (by repeat (first | (with_reducible first | exact HB.out | apply below_alloc | apply pw_below_drewN | apply below_drew1) | exact HB.out)) hb); have n1_ := Aside0.mk (hbox); have n2_ := Aside0.mk ((by rw [hg]; exact (below_size (by repeat (first | (with_reducible first | exact HB.out | apply below_alloc | apply pw_below_drewN | apply below_drew1) | exact HB.out))) : w.heap.size ≤ gb101)); have n3_ := Aside0.mk ((by rw [hg]; exact (below_size (by repeat (first | (with_reducible first | exact HB.out | apply below_alloc | apply pw_below_drewN | apply below_drew1) | exact HB.out))) : w.heap.size ≤ gb101)); clear HB; have HB := n0_; have BK101 := n1_; have GW101 := n2_; have GE101 := n3_; clear n0_ n1_ n2_ n3_; clear hb hbox hg) | ((with_reducible refine gate_dst (N := 3) rfl ?_); (try (refine gate_guard (by rfl) ?_; dsimp only)); refine box_event ?hg (N := 3) ?hd (cs := #[.int .i64 a1_0, .int .i64 a1_1]) (t := 41) ?hr ?_; (case hd => rfl); (case hg => rfl); (case hr => first | (go_simp; done) | (go_simp; rfl)); intro gb102 hg w18 hbox hb; have n0_ := Aside0.mk (blk_below (g := gb101) (o := .cells #[.slice A0_0 l0_0.length c0_0, .int .i64 a0_1, .slice A0_2 l0_2.length c0_2] 25 (0, 0)) (by (with_reducible repeat (first | refine blk_drewN ?_ _ | refine blk_drew ?_ | refine blk_alloc ?_ _)); exact BK101.out) hb); have n1_ := Aside0.mk (below_step (by repeat (first | (with_reducible first | exact HB.out | apply below_alloc | apply pw_below_drewN | apply below_drew1 | refine below_set ?_ GE101.out) | exact HB.out)) hb); have n2_ := Aside0.mk (hbox); have n3_ := Aside0.mk ((by rw [hg]; exact (below_size (by repeat (first | (with_reducible first | exact HB.out | apply below_alloc | apply pw_below_drewN | apply below_drew1 | refine below_set ?_ GE101.out) | exact HB.out))) : w.heap.size ≤ gb102)); have n4_ := Aside0.mk ((by rw [hg]; exact (below_size (by repeat (first | (with_reducible first | exact HB.out | apply below_alloc | apply pw_below_drewN | apply below_drew1 | refine below_set ?_ GE101.out) | exact HB.out))) : w.heap.size ≤ gb102)); have n5_ := Aside0.mk ((by rw [hg]; exact Nat.ne_of_lt (blk_lt (g := gb101) (o := .cells #[.slice A0_0 l0_0.length c0_0, .int .i64 a0_1, .slice A0_2 l0_2.length c0_2] 25 (0, 0)) (by (with_reducible repeat (first | refine blk_drewN ?_ _ | refine blk_drew ?_ | refine blk_alloc ?_ _)); exact BK101.out)) : gb101 ≠ gb102)); have n6_ := Aside0.mk ((by rw [hg]; exact Nat.ne_of_gt (blk_lt (g := gb101) (o := .cells #[.slice A0_0 l0_0.length c0_0, .int .i64 a0_1, .slice A0_2 l0_2.length c0_2] 25 (0, 0)) (by (with_reducible repeat (first | refine blk_drewN ?_ _ | refine blk_drew ?_ | refine blk_alloc ?_ _)); exact BK101.out)) : gb102 ≠ gb101)); clear BK101; clear HB; have BK101 := n0_; have HB := n1_; have BK102 := n2_; have GW102 := n3_; have GE102 := n4_; have NB101_102 := n5_; have NB102_101 := n6_; clear n0_ n1_ n2_ n3_ n4_ n5_ n6_; clear hb hbox hg; have hnb19 := NB102_101.out; have hnc19 := NB101_102.out; have hcz20_0 : w18.cell? ⟨gb102, 0, none⟩ = some (.int .i64 a1_0) := (blk_cell BK102.out 0).trans rfl; have hcz20_1 : w18.cell? ⟨gb102, 1, none⟩ = some (.int .i64 a1_1) := (blk_cell BK102.out 1).trans rfl; have hfz20_0 := blk_frozen BK102.out 0; have hfz20_1 := blk_frozen BK102.out 1; have hcz21_0 : w18.cell? ⟨gb101, 0, none⟩ = some (.slice A0_0 l0_0.length c0_0) := (blk_cell BK101.out 0).trans rfl; have hcz21_1 : w18.cell? ⟨gb101, 1, none⟩ = some (.int .i64 a0_1) := (blk_cell BK101.out 1).trans rfl; have hcz21_2 : w18.cell? ⟨gb101, 2, none⟩ = some (.slice A0_2 l0_2.length c0_2) := (blk_cell BK101.out 2).trans rfl; have hfz21_0 := blk_frozen BK101.out 0; have hfz21_1 := blk_frozen BK101.out 1; have hfz21_2 := blk_frozen BK101.out 2)); try go_wp2_with (first | ((with_reducible refine gate_dst (N := 2) rfl ?_); (try (refine gate_guard (by rfl) ?_; dsimp only)); refine box_event ?hg (N := 2) ?hd (cs := #[.slice A0_0 l0_0.length c0_0, .int .i64 a0_1, .slice A0_2 l0_2.length c0_2]) (t := 25) ?hr ?_; (case hd => rfl); (case hg => rfl); (case hr => first | (go_simp; done) | (go_simp; rfl)); intro gb101 hg w17 hbox hb; have n0_ := Aside0.mk (below_step (by repeat (first | (with_reducible first | exact HB.out | apply below_alloc | apply pw_below_drewN | apply below_drew1) | exact HB.out)) hb); have n1_ := Aside0.mk (hbox); have n2_ := Aside0.mk ((by rw [hg]; exact (below_size (by repeat (first | (with_reducible first | exact HB.out | apply below_alloc | apply pw_below_drewN | apply below_drew1) | exact HB.out))) : w.heap.size ≤ gb101)); have n3_ := Aside0.mk ((by rw [hg]; exact (below_size (by repeat (first | (with_reducible first | exact HB.out | apply below_alloc | apply pw_below_drewN | apply below_drew1) | exact HB.out))) : w.heap.size ≤ gb101)); clear HB; have HB := n0_; have BK101 := n1_; have GW101 := n2_; have GE101 := n3_; clear n0_ n1_ n2_ n3_; clear hb hbox hg) | ((with_reducible refine gate_dst (N := 3) rfl ?_); (try (refine gate_guard (by rfl) ?_; dsimp only)); refine box_event ?hg (N := 3) ?hd (cs := #[.int .i64 a1_0, .int .i64 a1_1]) (t := 41) ?hr ?_; (case hd => rfl); (case hg => rfl); (case hr => first | (go_simp; done) | (go_simp; rfl)); intro gb102 hg w18 hbox hb; have n0_ := Aside0.mk (blk_below (g := gb101) (o := .cells #[.slice A0_0 l0_0.length c0_0, .int .i64 a0_1, .slice A0_2 l0_2.length c0_2] 25 (0, 0)) (by (with_reducible repeat (first | refine blk_drewN ?_ _ | refine blk_drew ?_ | refine blk_alloc ?_ _)); exact BK101.out) hb); have n1_ := Aside0.mk (below_step (by repeat (first | (with_reducible first | exact HB.out | apply below_alloc | apply pw_below_drewN | apply below_drew1 | refine below_set ?_ GE101.out) | exact HB.out)) hb); have n2_ := Aside0.mk (hbox); have n3_ := Aside0.mk ((by rw [hg]; exact (below_size (by repeat (first | (with_reducible first | exact HB.out | apply below_alloc | apply pw_below_drewN | apply below_drew1 | refine below_set ?_ GE101.out) | exact HB.out))) : w.heap.size ≤ gb102)); have n4_ := Aside0.mk ((by rw [hg]; exact (below_size (by repeat (first | (with_reducible first | exact HB.out | apply below_alloc | apply pw_below_drewN | apply below_drew1 | refine below_set ?_ GE101.out) | exact HB.out))) : w.heap.size ≤ gb102)); have n5_ := Aside0.mk ((by rw [hg]; exact Nat.ne_of_lt (blk_lt (g := gb101) (o := .cells #[.slice A0_0 l0_0.length c0_0, .int .i64 a0_1, .slice A0_2 l0_2.length c0_2] 25 (0, 0)) (by (with_reducible repeat (first | refine blk_drewN ?_ _ | refine blk_drew ?_ | refine blk_alloc ?_ _)); exact BK101.out)) : gb101 ≠ gb102)); have n6_ := Aside0.mk ((by rw [hg]; exact Nat.ne_of_gt (blk_lt (g := gb101) (o := .cells #[.slice A0_0 l0_0.length c0_0, .int .i64 a0_1, .slice A0_2 l0_2.length c0_2] 25 (0, 0)) (by (with_reducible repeat (first | refine blk_drewN ?_ _ | refine blk_drew ?_ | refine blk_alloc ?_ _)); exact BK101.out)) : gb102 ≠ gb101)); clear BK101; clear HB; have BK101 := n0_; have HB := n1_; have BK102 := n2_; have GW102 := n3_; have GE102 := n4_; have NB101_102 := n5_; have NB102_101 := n6_; clear n0_ n1_ n2_ n3_ n4_ n5_ n6_; clear hb hbox hg; have hnb19 := NB102_101.out; have hnc19 := NB101_102.out; have hcz20_0 : w18.cell? ⟨gb102, 0, none⟩ = some (.int .i64 a1_0) := (blk_cell BK102.out 0).trans rfl; have hcz20_1 : w18.cell? ⟨gb102, 1, none⟩ = some (.int .i64 a1_1) := (blk_cell BK102.out 1).trans rfl; have hfz20_0 := blk_frozen BK102.out 0; have hfz20_1 := blk_frozen BK102.out 1; have hcz21_0 : w18.cell? ⟨gb101, 0, none⟩ = some (.slice A0_0 l0_0.length c0_0) := (blk_cell BK101.out 0).trans rfl; have hcz21_1 : w18.cell? ⟨gb101, 1, none⟩ = some (.int .i64 a0_1) := (blk_cell BK101.out 1).trans rfl; have hcz21_2 : w18.cell? ⟨gb101, 2, none⟩ = some (.slice A0_2 l0_2.length c0_2) := (blk_cell BK101.out 2).trans rfl; have hfz21_0 := blk_frozen BK101.out 0; have hfz21_1 := blk_frozen BK101.out 1; have hfz21_2 := blk_frozen BK101.out 2)))
      go_ret
      exact ⟨by first | rfl | (simp [errW_none, errW_some] <;> rfl) | (simp [*, errW_none, errW_some] <;> rfl), by repeat (first | (with_reducible first | exact HB.out | apply below_alloc | apply pw_below_drewN | apply below_drew1 | refine below_set ?_ GE101.out | refine below_set ?_ GE102.out) | exact HB.out)⟩
  · rw [if_neg c3] at H
    have c3b0 : decide (0 ≤ a1_0) = false := decide_eq_false c3
    clear c3
    obtain rfl := Option.some.inj H
    go_enter Try.func59, Try.ntmps59
    go_wp2_with (first | ((with_reducible refine gate_dst (N := 2) rfl ?_); (try (refine gate_guard (by rfl) ?_; dsimp only)); refine box_event ?hg (N := 2) ?hd (cs := #[.slice A0_0 l0_0.length c0_0, .int .i64 a0_1, .slice A0_2 l0_2.length c0_2]) (t := 25) ?hr ?_; (case hd => rfl); (case hg => rfl); (case hr => first | (go_simp; done) | (go_simp; rfl)); intro gb101 hg w22 hbox hb; have n0_ := Aside0.mk (below_step (by repeat (first | (with_reducible first | exact HB.out | apply below_alloc | apply pw_below_drewN | apply below_drew1) | exact HB.out)) hb); have n1_ := Aside0.mk (hbox); have n2_ := Aside0.mk ((by rw [hg]; exact (below_size (by repeat (first | (with_reducible first | exact HB.out | apply below_alloc | apply pw_below_drewN | apply below_drew1) | exact HB.out))) : w.heap.size ≤ gb101)); have n3_ := Aside0.mk ((by rw [hg]; exact (below_size (by repeat (first | (with_reducible first | exact HB.out | apply below_alloc | apply pw_below_drewN | apply below_drew1) | exact HB.out))) : w.heap.size ≤ gb101)); clear HB; have HB := n0_; have BK101 := n1_; have GW101 := n2_; have GE101 := n3_; clear n0_ n1_ n2_ n3_; clear hb hbox hg) | ((with_reducible refine gate_dst (N := 3) rfl ?_); (try (refine gate_guard (by rfl) ?_; dsimp only)); refine box_event ?hg (N := 3) ?hd (cs := #[.int .i64 a1_0, .int .i64 a1_1]) (t := 41) ?hr ?_; (case hd => rfl); (case hg => rfl); (case hr => first | (go_simp; done) | (go_simp; rfl)); intro gb102 hg w23 hbox hb; have n0_ := Aside0.mk (blk_below (g := gb101) (o := .cells #[.slice A0_0 l0_0.length c0_0, .int .i64 a0_1, .slice A0_2 l0_2.length c0_2] 25 (0, 0)) (by (with_reducible repeat (first | refine blk_drewN ?_ _ | refine blk_drew ?_ | refine blk_alloc ?_ _)); exact BK101.out) hb); have n1_ := Aside0.mk (below_step (by repeat (first | (with_reducible first | exact HB.out | apply below_alloc | apply pw_below_drewN | apply below_drew1 | refine below_set ?_ GE101.out) | exact HB.out)) hb); have n2_ := Aside0.mk (hbox); have n3_ := Aside0.mk ((by rw [hg]; exact (below_size (by repeat (first | (with_reducible first | exact HB.out | apply below_alloc | apply pw_below_drewN | apply below_drew1 | refine below_set ?_ GE101.out) | exact HB.out))) : w.heap.size ≤ gb102)); have n4_ := Aside0.mk ((by rw [hg]; exact (below_size (by repeat (first | (with_reducible first | exact HB.out | apply below_alloc | apply pw_below_drewN | apply below_drew1 | refine below_set ?_ GE101.out) | exact HB.out))) : w.heap.size ≤ gb102)); have n5_ := Aside0.mk ((by rw [hg]; exact Nat.ne_of_lt (blk_lt (g := gb101) (o := .cells #[.slice A0_0 l0_0.length c0_0, .int .i64 a0_1, .slice A0_2 l0_2.length c0_2] 25 (0, 0)) (by (with_reducible repeat (first | refine blk_drewN ?_ _ | refine blk_drew ?_ | refine blk_alloc ?_ _)); exact BK101.out)) : gb101 ≠ gb102)); have n6_ := Aside0.mk ((by rw [hg]; exact Nat.ne_of_gt (blk_lt (g := gb101) (o := .cells #[.slice A0_0 l0_0.length c0_0, .int .i64 a0_1, .slice A0_2 l0_2.length c0_2] 25 (0, 0)) (by (with_reducible repeat (first | refine blk_drewN ?_ _ | refine blk_drew ?_ | refine blk_alloc ?_ _)); exact BK101.out)) : gb102 ≠ gb101)); clear BK101; clear HB; have BK101 := n0_; have HB := n1_; have BK102 := n2_; have GW102 := n3_; have GE102 := n4_; have NB101_102 := n5_; have NB102_101 := n6_; clear n0_ n1_ n2_ n3_ n4_ n5_ n6_; clear hb hbox hg; have hnb24 := NB102_101.out; have hnc24 := NB101_102.out; have hcz25_0 : w23.cell? ⟨gb102, 0, none⟩ = some (.int .i64 a1_0) := (blk_cell BK102.out 0).trans rfl; have hcz25_1 : w23.cell? ⟨gb102, 1, none⟩ = some (.int .i64 a1_1) := (blk_cell BK102.out 1).trans rfl; have hfz25_0 := blk_frozen BK102.out 0; have hfz25_1 := blk_frozen BK102.out 1))
    repeat (go_quiet (first | ((with_reducible refine gate_dst (N := 2) rfl ?_); (try (refine gate_guard (by rfl) ?_; dsimp only)); refine box_event ?hg (N := 2) ?hd (cs := #[.slice A0_0 l0_0.length c0_0, .int .i64 a0_1, .slice A0_2 l0_2.length c0_2]) (t := 25) ?hr ?_; (case hd => rfl); (case hg => rfl); (case hr => first | (go_simp; done) | (go_simp; rfl)); intro gb101 hg w22 hbox hb; have n0_ := Aside0.mk (below_step (by repeat (first | (with_reducible first | exact HB.out | apply below_alloc | apply pw_below_drewN | apply below_drew1) | exact HB.out)) hb); have n1_ := Aside0.mk (hbox); have n2_ := Aside0.mk ((by rw [hg]; exact (below_size (by repeat (first | (with_reducible first | exact HB.out | apply below_alloc | apply pw_below_drewN | apply below_drew1) | exact HB.out))) : w.heap.size ≤ gb101)); have n3_ := Aside0.mk ((by rw [hg]; exact (below_size (by repeat (first | (with_reducible first | exact HB.out | apply below_alloc | apply pw_below_drewN | apply below_drew1) | exact HB.out))) : w.heap.size ≤ gb101)); clear HB; have HB := n0_; have BK101 := n1_; have GW101 := n2_; have GE101 := n3_; clear n0_ n1_ n2_ n3_; clear hb hbox hg) | ((with_reducible refine gate_dst (N := 3) rfl ?_); (try (refine gate_guard (by rfl) ?_; dsimp only)); refine box_event ?hg (N := 3) ?hd (cs := #[.int .i64 a1_0, .int .i64 a1_1]) (t := 41) ?hr ?_; (case hd => rfl); (case hg => rfl); (case hr => first | (go_simp; done) | (go_simp; rfl)); intro gb102 hg w23 hbox hb; have n0_ := Aside0.mk (blk_below (g := gb101) (o := .cells #[.slice A0_0 l0_0.length c0_0, .int .i64 a0_1, .slice A0_2 l0_2.length c0_2] 25 (0, 0)) (by (with_reducible repeat (first | refine blk_drewN ?_ _ | refine blk_drew ?_ | refine blk_alloc ?_ _)); exact BK101.out) hb); have n1_ := Aside0.mk (below_step (by repeat (first | (with_reducible first | exact HB.out | apply below_alloc | apply pw_below_drewN | apply below_drew1 | refine below_set ?_ GE101.out) | exact HB.out)) hb); have n2_ := Aside0.mk (hbox); have n3_ := Aside0.mk ((by rw [hg]; exact (below_size (by repeat (first | (with_reducible first | exact HB.out | apply below_alloc | apply pw_below_drewN | apply below_drew1 | refine below_set ?_ GE101.out) | exact HB.out))) : w.heap.size ≤ gb102)); have n4_ := Aside0.mk ((by rw [hg]; exact (below_size (by repeat (first | (with_reducible first | exact HB.out | apply below_alloc | apply pw_below_drewN | apply below_drew1 | refine below_set ?_ GE101.out) | exact HB.out))) : w.heap.size ≤ gb102)); have n5_ := Aside0.mk ((by rw [hg]; exact Nat.ne_of_lt (blk_lt (g := gb101) (o := .cells #[.slice A0_0 l0_0.length c0_0, .int .i64 a0_1, .slice A0_2 l0_2.length c0_2] 25 (0, 0)) (by (with_reducible repeat (first | refine blk_drewN ?_ _ | refine blk_drew ?_ | refine blk_alloc ?_ _)); exact BK101.out)) : gb101 ≠ gb102)); have n6_ := Aside0.mk ((by rw [hg]; exact Nat.ne_of_gt (blk_lt (g := gb101) (o := .cells #[.slice A0_0 l0_0.length c0_0, .int .i64 a0_1, .slice A0_2 l0_2.length c0_2] 25 (0, 0)) (by (with_reducible repeat (first | refine blk_drewN ?_ _ | refine blk_drew ?_ | refine blk_alloc ?_ _)); exact BK101.out)) : gb102 ≠ gb101)); clear BK101; clear HB; have BK101 := n0_; have HB := n1_; have BK102 := n2_; have GW102 := n3_; have GE102 := n4_; have NB101_102 := n5_; have NB102_101 := n6_; clear n0_ n1_ n2_ n3_ n4_ n5_ n6_; clear hb hbox hg; have hnb24 := NB102_101.out; have hnc24 := NB101_102.out; have hcz25_0 : w23.cell? ⟨gb102, 0, none⟩ = some (.int .i64 a1_0) := (blk_cell BK102.out 0).trans rfl; have hcz25_1 : w23.cell? ⟨gb102, 1, none⟩ = some (.int .i64 a1_1) := (blk_cell BK102.out 1).trans rfl; have hfz25_0 := blk_frozen BK102.out 0; have hfz25_1 := blk_frozen BK102.out 1)); try go_wp2_with (first | ((with_reducible refine gate_dst (N := 2) rfl ?_); (try (refine gate_guard (by rfl) ?_; dsimp only)); refine box_event ?hg (N := 2) ?hd (cs := #[.slice A0_0 l0_0.length c0_0, .int .i64 a0_1, .slice A0_2 l0_2.length c0_2]) (t := 25) ?hr ?_; (case hd => rfl); (case hg => rfl); (case hr => first | (go_simp; done) | (go_simp; rfl)); intro gb101 hg w22 hbox hb; have n0_ := Aside0.mk (below_step (by repeat (first | (with_reducible first | exact HB.out | apply below_alloc | apply pw_below_drewN | apply below_drew1) | exact HB.out)) hb); have n1_ := Aside0.mk (hbox); have n2_ := Aside0.mk ((by rw [hg]; exact (below_size (by repeat (first | (with_reducible first | exact HB.out | apply below_alloc | apply pw_below_drewN | apply below_drew1) | exact HB.out))) : w.heap.size ≤ gb101)); have n3_ := Aside0.mk ((by rw [hg]; exact (below_size (by repeat (first | (with_reducible first | exact HB.out | apply below_alloc | apply pw_below_drewN | apply below_drew1) | exact HB.out))) : w.heap.size ≤ gb101)); clear HB; have HB := n0_; have BK101 := n1_; have GW101 := n2_; have GE101 := n3_; clear n0_ n1_ n2_ n3_; clear hb hbox hg) | ((with_reducible refine gate_dst (N := 3) rfl ?_); (try (refine gate_guard (by rfl) ?_; dsimp only)); refine box_event ?hg (N := 3) ?hd (cs := #[.int .i64 a1_0, .int .i64 a1_1]) (t := 41) ?hr ?_; (case hd => rfl); (case hg => rfl); (case hr => first | (go_simp; done) | (go_simp; rfl)); intro gb102 hg w23 hbox hb; have n0_ := Aside0.mk (blk_below (g := gb101) (o := .cells #[.slice A0_0 l0_0.length c0_0, .int .i64 a0_1, .slice A0_2 l0_2.length c0_2] 25 (0, 0)) (by (with_reducible repeat (first | refine blk_drewN ?_ _ | refine blk_drew ?_ | refine blk_alloc ?_ _)); exact BK101.out) hb); have n1_ := Aside0.mk (below_step (by repeat (first | (with_reducible first | exact HB.out | apply below_alloc | apply pw_below_drewN | apply below_drew1 | refine below_set ?_ GE101.out) | exact HB.out)) hb); have n2_ := Aside0.mk (hbox); have n3_ := Aside0.mk ((by rw [hg]; exact (below_size (by repeat (first | (with_reducible first | exact HB.out | apply below_alloc | apply pw_below_drewN | apply below_drew1 | refine below_set ?_ GE101.out) | exact HB.out))) : w.heap.size ≤ gb102)); have n4_ := Aside0.mk ((by rw [hg]; exact (below_size (by repeat (first | (with_reducible first | exact HB.out | apply below_alloc | apply pw_below_drewN | apply below_drew1 | refine below_set ?_ GE101.out) | exact HB.out))) : w.heap.size ≤ gb102)); have n5_ := Aside0.mk ((by rw [hg]; exact Nat.ne_of_lt (blk_lt (g := gb101) (o := .cells #[.slice A0_0 l0_0.length c0_0, .int .i64 a0_1, .slice A0_2 l0_2.length c0_2] 25 (0, 0)) (by (with_reducible repeat (first | refine blk_drewN ?_ _ | refine blk_drew ?_ | refine blk_alloc ?_ _)); exact BK101.out)) : gb101 ≠ gb102)); have n6_ := Aside0.mk ((by rw [hg]; exact Nat.ne_of_gt (blk_lt (g := gb101) (o := .cells #[.slice A0_0 l0_0.length c0_0, .int .i64 a0_1, .slice A0_2 l0_2.length c0_2] 25 (0, 0)) (by (with_reducible repeat (first | refine blk_drewN ?_ _ | refine blk_drew ?_ | refine blk_alloc ?_ _)); exact BK101.out)) : gb102 ≠ gb101)); clear BK101; clear HB; have BK101 := n0_; have HB := n1_; have BK102 := n2_; have GW102 := n3_; have GE102 := n4_; have NB101_102 := n5_; have NB102_101 := n6_; clear n0_ n1_ n2_ n3_ n4_ n5_ n6_; clear hb hbox hg; have hnb24 := NB102_101.out; have hnc24 := NB101_102.out; have hcz25_0 : w23.cell? ⟨gb102, 0, none⟩ = some (.int .i64 a1_0) := (blk_cell BK102.out 0).trans rfl; have hcz25_1 : w23.cell? ⟨gb102, 1, none⟩ = some (.int .i64 a1_1) := (blk_cell BK102.out 1).trans rfl; have hfz25_0 := blk_frozen BK102.out 0; have hfz25_1 := blk_frozen BK102.out 1)))
    go_ret
    exact ⟨by first | rfl | (simp [errW_none, errW_some] <;> rfl) | (simp [*, errW_none, errW_some] <;> rfl), by repeat (first | (with_reducible first | exact HB.out | apply below_alloc | apply pw_below_drewN | apply below_drew1 | refine below_set ?_ GE101.out | refine below_set ?_ GE102.out) | exact HB.out)⟩
end Go.Proofs.Ytjmeignhhheckaa.Q
namespace Go.Proofs.Ytjmeignhhheckaa.H
open Go.RowKit Go.Maps Go.Proofs.YtjmeignhhheckaaW.PrintWords Go.Proofs.YtjmeignhhheckaaW.PrintLast Go.Proofs.Ytjmeignhhheckaa.Q
set_option maxRecDepth 100000
def thereB (bs : List S36) (sb si : Int) : Bool := decide (0 ≤ sb ∧ sb < bs.length ∧ 0 ≤ si ∧ si ≤ (rd_T36 bs sb).f0.length)
theorem there_f (l0 : List Bool) (a1 : Int) (bs : List S36) (sb si : Int) : live_there.f l0 a1 bs sb si = some (thereB bs sb si) := by
  unfold live_there.f thereB
  by_cases h0 : sb ≥ 0
  · rw [if_pos h0]
    by_cases h1 : sb < bs.length
    · rw [if_pos h1]
      by_cases h2 : si ≥ 0
      · rw [if_pos h2, if_pos h0]
        congr 1
        exact decide_eq_decide.2 ⟨fun h => ⟨h0, h1, h2, h⟩, fun h => h.2.2.2⟩
      · rw [if_neg h2]
        congr 1
        exact (decide_eq_false (fun h => h2 h.2.2.1)).symm
    · rw [if_neg h1]
      congr 1
      exact (decide_eq_false (fun h => h1 h.2.1)).symm
  · rw [if_neg h0]
    congr 1
    exact (decide_eq_false (fun h => h0 h.1)).symm
theorem thereB_iff {bs : List S36} {sb si : Int} (h : thereB bs sb si = true) : 0 ≤ sb ∧ sb < bs.length ∧ 0 ≤ si ∧ si ≤ (rd_T36 bs sb).f0.length := of_decide_eq_true h
def atS (xs : List Bool) (sites : Int) (bs : List S36) (sb si : Int) : List Int × Int :=
  if gE xs sites bs ≠ 0 then ([], gE xs sites bs) else if thereB bs sb si then (listS (aheadW (rd_T36 bs sb) si.toNat (setsS bs)), 0) else ([], 1)
structure LAFr (w : World) (G : Array Value) (sb si : Int) (wr : World) : Prop where
  b : Below w.heap.size w wr
  c0 : wr.heap[w.heap.size]? = some (.cells G 25 (0, 0))
  c1 : wr.heap[w.heap.size + 1]? = some (.cells #[.int .i64 sb, .int .i64 si] 41 (0, 0))
theorem LAFr.below {w : World} {G : Array Value} {sb si : Int} {wr wr' : World} (h : LAFr w G sb si wr) (hb : Below wr.heap.size wr wr') : LAFr w G sb si wr' := ⟨below_step h.b hb, blk_below h.c0 hb, blk_below h.c1 hb⟩
theorem LAFr.drew {w : World} {G : Array Value} {sb si : Int} {wr : World} (h : LAFr w G sb si wr) : LAFr w G sb si wr.drew := ⟨below_drew h.b, blk_drew h.c0, blk_drew h.c1⟩
theorem LAFr.start (w : World) (G : Array Value) (sb si : Int) : LAFr w G sb si ((w.alloc (.cells G 25)).alloc (.cells #[.int .i64 sb, .int .i64 si] 41)) :=
  ⟨below_alloc (below_alloc (Below.refl _ _) _) _, blk_alloc (blk_new _ _) _, by
    have := blk_new (w.alloc (.cells G 25)) (.cells #[.int .i64 sb, .int .i64 si] 41)
    rwa [show (w.alloc (.cells G 25)).heap.size = w.heap.size + 1 from by simp] at this⟩
theorem SR.lt {w : World} {g : Nat} {xs : List (List Nat)} (h : SR w g xs) : g < w.heap.size := by
  obtain ⟨C, hC, _⟩ := h.cells
  exact blk_lt hC
set_option maxHeartbeats 4000000 in
theorem at_calls (A0 A2 : Option Addr) (c0 c2 : Nat) (l0 : List Bool) (a1 : Int) (l2 : List S36) (sb si : Int) (w : World) (h0 : Kd.C Kd.bool w A0 l0.length l0) (hc0 : l0.length ≤ c0) (h2 : Kd.C k36 w A2 l2.length l2) (hc2 : l2.length ≤ c2) (hs : smallG l2) :
    Calls Try.prog 17 #[.agg #[.slice A0 l0.length c0, .int .i64 a1, .slice A2 l2.length c2], .agg #[.int .i64 sb, .int .i64 si]] w fun e w' => ∃ v : Value, e = .returned (.tuple #[v, .int .i64 (atS l0 a1 l2 sb si).2]) ∧ Kd.R (Kd.int .i64) 3 w' w.heap.size (fun _ => True) v (atS l0 a1 l2 sb si).1 ∧ Below w.heap.size w w' := by
  have HC0 := Lib.hid h0
  have HC := Lib.hid h2
  have HL0 := Lib.hid hc0
  have HL2 := Lib.hid hc2
  clear h0 h2 hc0 hc2
  have hu25 := Try.underlying25
  have hu41 := Try.underlying41
  have HF := Lib.hid (LAFr.start w #[.slice A0 l0.length c0, .int .i64 a1, .slice A2 l2.length c2] sb si)
  by_cases hE : gE l0 a1 l2 = 0
  · have hcb : (gE l0 a1 l2 != 0) = false := by simpa using hE
    have HE := Lib.hid hE
    clear hE
    have G := gE_gok HE.out
    have hes : atS l0 a1 l2 sb si = if thereB l2 sb si then (listS (aheadW (rd_T36 l2 sb) si.toNat (setsS l2)), 0) else ([], 1) := by
      unfold atS
      rw [if_neg (by rw [HE.out]; decide)]
    rw [hes]
    clear hes
    cases htb : thereB l2 sb si with
    | false =>
      go_enter Try.func17, Try.ntmps17
      go_wp2_with (first | (go_at_call 56; go_loud (refine (check_calls (Kd.C_below HC0.out HF.out.b) HL0.out (Kd.C_below HC.out HF.out.b) HL2.out hs).mono ?_; rintro e w3 ⟨rfl, hb3⟩; have HF3 := Lib.hid (HF.out.below hb3); clear hb3; have g0 : w3.cell? ⟨w.heap.size, 0, none⟩ = some (.slice A0 l0.length c0) := (blk_cell HF3.out.c0 0).trans rfl; have g1 : w3.cell? ⟨w.heap.size, 1, none⟩ = some (.int .i64 a1) := (blk_cell HF3.out.c0 1).trans rfl; have g2 : w3.cell? ⟨w.heap.size, 2, none⟩ = some (.slice A2 l2.length c2) := (blk_cell HF3.out.c0 2).trans rfl; have s0 : w3.cell? ⟨w.heap.size + 1, 0, none⟩ = some (.int .i64 sb) := (blk_cell HF3.out.c1 0).trans rfl; have s1 : w3.cell? ⟨w.heap.size + 1, 1, none⟩ = some (.int .i64 si) := (blk_cell HF3.out.c1 1).trans rfl)) | (go_at_call 59; go_loud (refine (live_there.calls A0 c0 l0 a1 A2 c2 l2 sb si _ _ (Kd.C_below HC0.out HF3.out.b) HL0.out (Kd.C_below HC.out HF3.out.b) HL2.out ((there_f l0 a1 l2 sb si).trans (congrArg some htb))).mono ?_; rintro e w4 ⟨rfl, hb4⟩; have HF4 := Lib.hid (HF3.out.below hb4); clear hb4)))
      go_ret2
      exact ⟨.slice none 0 0, rfl, Kd.R_nil _ _ _ _ _, HF4.out.b⟩
    | true =>
      obtain ⟨t0, t1, t2, t3⟩ := thereB_iff htb
      obtain ⟨n, rfl⟩ := Int.eq_ofNat_of_zero_le t0
      obtain ⟨m, rfl⟩ := Int.eq_ofNat_of_zero_le t2
      rw [if_pos rfl, Int.toNat_natCast]
      dsimp only
      go_enter Try.func17, Try.ntmps17
      go_wp2_with (first | (go_at_call 56; go_loud (refine (check_calls (Kd.C_below HC0.out HF.out.b) HL0.out (Kd.C_below HC.out HF.out.b) HL2.out hs).mono ?_; rintro e w3 ⟨rfl, hb3⟩; have HF3 := Lib.hid (HF.out.below hb3); clear hb3; have g0 : w3.cell? ⟨w.heap.size, 0, none⟩ = some (.slice A0 l0.length c0) := (blk_cell HF3.out.c0 0).trans rfl; have g1 : w3.cell? ⟨w.heap.size, 1, none⟩ = some (.int .i64 a1) := (blk_cell HF3.out.c0 1).trans rfl; have g2 : w3.cell? ⟨w.heap.size, 2, none⟩ = some (.slice A2 l2.length c2) := (blk_cell HF3.out.c0 2).trans rfl; have s0 : w3.cell? ⟨w.heap.size + 1, 0, none⟩ = some (.int .i64 n) := (blk_cell HF3.out.c1 0).trans rfl; have s1 : w3.cell? ⟨w.heap.size + 1, 1, none⟩ = some (.int .i64 m) := (blk_cell HF3.out.c1 1).trans rfl)) | (go_at_call 59; go_loud (refine (live_there.calls A0 c0 l0 a1 A2 c2 l2 n m _ _ (Kd.C_below HC0.out HF3.out.b) HL0.out (Kd.C_below HC.out HF3.out.b) HL2.out ((there_f l0 a1 l2 n m).trans (congrArg some htb))).mono ?_; rintro e w4 ⟨rfl, hb4⟩; have HF4 := Lib.hid (HF3.out.below hb4); clear hb4)))
      clear g0 g1 g2 s0 s1
      have hblk := G.blk
      have hbk : blkOk l2.length (rd_T36 l2 (n : Nat)) := hblk _ (getD_mem (by omega))
      obtain ⟨ad2, A3, c3, hA, b0, b1, b2, b3, b4, hc3, hC3⟩ := at_T36 (Kd.C_below HC.out HF4.out.b) (n : Int) (by omega) (by omega)
      subst hA
      simp only [Int.toNat_natCast] at b0 b1 b2 b3 b4
      have HS := Lib.hid (setsS_spec hblk)
      have hm : m ≤ (rd_T36 l2 (n : Nat)).f0.length := by omega
      have HC3 := Lib.hid (Kd.C_drew hC3)
      have HC3l := Lib.hid hc3
      have HBK := Lib.hid hbk
      have HBL := Lib.hid hblk
      have HGN := Lib.hid (show l2.length ≤ 5000 from by have := G.nb; omega)
      clear hC3 hc3 hbk hblk t3
      generalize hbe : rd_T36 l2 (n : Nat) = bk at *
      have HBE := Lib.hid hbe
      clear hbe
      have g0 : w4.cell? ⟨w.heap.size, 0, none⟩ = some (.slice A0 l0.length c0) := (blk_cell HF4.out.c0 0).trans rfl
      have g1 : w4.cell? ⟨w.heap.size, 1, none⟩ = some (.int .i64 a1) := (blk_cell HF4.out.c0 1).trans rfl
      have g2 : w4.cell? ⟨w.heap.size, 2, none⟩ = some (.slice (some ad2) l2.length c2) := (blk_cell HF4.out.c0 2).trans rfl
      have s0 : w4.cell? ⟨w.heap.size + 1, 0, none⟩ = some (.int .i64 n) := (blk_cell HF4.out.c1 0).trans rfl
      have s1 : w4.cell? ⟨w.heap.size + 1, 1, none⟩ = some (.int .i64 m) := (blk_cell HF4.out.c1 1).trans rfl
      have hu23 := Try.underlying23
      have hu36 := Try.underlying36
      go_region_held3 (fun w' => w'.cell? ⟨w.heap.size, 0, none⟩ = some (.slice A0 l0.length c0) ∧ w'.cell? ⟨w.heap.size, 1, none⟩ = some (.int .i64 a1) ∧ w'.cell? ⟨w.heap.size, 2, none⟩ = some (.slice (some ad2) l2.length c2) ∧ w'.cell? ⟨w.heap.size + 1, 0, none⟩ = some (.int .i64 n) ∧ w'.cell? ⟨w.heap.size + 1, 1, none⟩ = some (.int .i64 m) ∧
          w'.cell? (ad2.add (n * 5)) = some (.slice A3 bk.f0.length c3) ∧ w'.cell? ⟨(ad2.add (n * 5)).block, (ad2.add (n * 5)).off + 1, none⟩ = some (.int .u8 bk.f1) ∧ w'.cell? ⟨(ad2.add (n * 5)).block, (ad2.add (n * 5)).off + 2, none⟩ = some (.int .i64 bk.f2) ∧ w'.cell? ⟨(ad2.add (n * 5)).block, (ad2.add (n * 5)).off + 3, none⟩ = some (.int .i64 bk.f3) ∧ w'.cell? ⟨(ad2.add (n * 5)).block, (ad2.add (n * 5)).off + 4, none⟩ = some (.int .i64 bk.f4))
        (first | go_keep | exact ⟨pw_cell_below HB5.out g0, pw_cell_below HB5.out g1, pw_cell_below HB5.out g2, pw_cell_below HB5.out s0, pw_cell_below HB5.out s1, pw_cell_below HB5.out b0, pw_cell_below HB5.out b1, pw_cell_below HB5.out b2, pw_cell_below HB5.out b3, pw_cell_below HB5.out b4⟩ | skip)
        (first | (go_at_call 57; refine (sets_any A0 (some ad2) c0 c2 a1 l0 l2 _ (Kd.C_below HC.out (by exact HF4.out.drew.b)) HL2.out HGN.out HBL.out).mono ?_; rintro e w5 ⟨rfl, hsr, hb5⟩; have HB5 := Lib.hid hb5; have HSR := Lib.hid hsr; clear hb5 hsr; have hah := ahead_calls A3 c3 bk m (w4.drew.heap.size + 1) l2.length (setsS l2) w5 (Kd.C_below HC3.out (by exact HB5.out)) HC3l.out HSR.out (SR.lt HSR.out) (by rw [HS.out.2.1.len]; exact Nat.le_refl _) (by rw [HS.out.2.1.len]; exact HBK.out.nx) HBK.out.br HBK.out.rg hm; rw [HS.out.2.1.len] at hah; have HAH := Lib.hid hah; clear hah) | (go_at_call 60; refine HAH.out.mono ?_; rintro e w6 ⟨rfl, hok, hb6⟩; have n0_ := Lib.hid (below_step HB5.out hb6); clear HB5; have HB5 := n0_; clear n0_; have HOK := Lib.hid hok; clear hb6 hok) | (go_at_call 58; refine (list_calls _ HOK.out _).mono ?_; rintro e w7 ⟨v7, rfl, hr7, hb7⟩; have HR7 := Lib.hid (Kd.R_lower hr7 (show w.heap.size ≤ w6.heap.size from (below_step HF4.out.drew.b HB5.out).size)); have n0_ := Lib.hid (below_step HB5.out hb7); clear HB5; have HB5 := n0_; clear n0_; clear hr7 hb7))
      go_wp2
      go_ret2
      exact ⟨v7, rfl, by rw [HBE.out]; exact HR7.out, below_step HF4.out.drew.b HB5.out⟩
  · have hcb : (gE l0 a1 l2 != 0) = true := by simpa using hE
    have HE := Lib.hid hE
    clear hE
    go_enter Try.func17, Try.ntmps17
    go_wp2_with (go_at_call 56; go_loud (refine (check_calls (Kd.C_below HC0.out HF.out.b) HL0.out (Kd.C_below HC.out HF.out.b) HL2.out hs).mono ?_; rintro e w3 ⟨rfl, hb3⟩; have HF3 := Lib.hid (HF.out.below hb3); clear hb3))
    go_ret2
    refine ⟨.slice none 0 0, ?_, ?_, HF3.out.b⟩
    · unfold atS
      rw [if_pos HE.out]
      rfl
    · unfold atS
      rw [if_pos HE.out]
      exact Kd.R_nil _ _ _ _ _
end Go.Proofs.Ytjmeignhhheckaa.H
namespace Go.Proofs.Ytjmeignhhheckaa.Q
open Go.RowKit Go.Proofs.YtjmeignhhheckaaW.PrintWords Go.Proofs.YtjmeignhhheckaaW.PrintLast
/-- live.At, where no block is too long -/
def live_At.f (l0 : List Bool) (a1 : Int) (bs : List S36) (sb si : Int) : Option (List Int × Int) := if H.smallG bs then some (H.atS l0 a1 bs sb si) else none
theorem live_At.calls (A0 : Option Addr) (c0 : Nat) (l0 : List Bool) (a1 : Int) (A2 : Option Addr) (c2 : Nat) (l2 : List S36) (sb si : Int) (r1 : List Int) (r2 : Int) (w : World) (h0 : Kd.C Kd.bool w A0 l0.length l0) (hc0 : l0.length ≤ c0) (h2 : Kd.C k36 w A2 l2.length l2) (hc2 : l2.length ≤ c2) (h : live_At.f l0 a1 l2 sb si = some (r1, r2)) :
    Calls Try.prog 17 #[.agg #[.slice A0 l0.length c0, .int .i64 a1, .slice A2 l2.length c2], .agg #[.int .i64 sb, .int .i64 si]] w fun e w' => ∃ v0_ : Value, e = .returned (.tuple #[v0_, .int .i64 r2]) ∧ Kd.R (Kd.int .i64) 3 w' w.heap.size (fun _ => True) v0_ r1 ∧ Below w.heap.size w w' := by
  unfold live_At.f at h
  split at h
  · rename_i hs
    have h := Option.some.inj h
    have := H.at_calls A0 A2 c0 c2 l0 a1 l2 sb si w h0 hc0 h2 hc2 hs
    rw [h] at this
    exact this
  · cases h
end Go.Proofs.Ytjmeignhhheckaa.Q
namespace Go.Proofs.Ytjmeignhhheckaa.H
open Go.RowKit Go.Maps Go.Proofs.YtjmeignhhheckaaW.PrintWords Go.Proofs.YtjmeignhhheckaaW.PrintLast Go.Proofs.Ytjmeignhhheckaa.Q
set_option maxRecDepth 100000
structure ESt where
  names : List (List Bool)
  gone : List Bool
def ESt.has (st : ESt) (r s : Nat) : Bool := (st.names.getD r []).getD s false
def ESt.put (st : ESt) (r s : Nat) : ESt := ⟨st.names.set r ((st.names.getD r []).set s true), st.gone⟩
def ESt.lose (st : ESt) (s : Nat) : ESt := ⟨st.names, st.gone.set s true⟩
def addS (st : ESt) (r s : Nat) : ESt × Bool := if st.has r s then (st, false) else (st.put r s, true)
def moveGo (a b : Nat) : List Nat → ESt → Bool → ESt × Bool
  | [], st, m => (st, m)
  | s :: r, st, m => if st.has b s then moveGo a b r (addS st a s).1 ((addS st a s).2 || m) else moveGo a b r st m
def unkGo (u : Nat) : List Int → ESt → Bool → ESt × Bool
  | [], st, m => (st, m)
  | x :: r, st, m => unkGo u r (addS st x.toNat u).1 ((addS st x.toNat u).2 || m)
def flowsS (xs : List Bool) (u : Nat) (bs : List S36) (n k : Nat) (i : S46) (st : ESt) : ESt × Bool :=
  if i.f0 = 7 then addS st i.f2.toNat i.f4.toNat
  else if i.f0 = 2 then moveGo i.f2.toNat i.f3.toNat (List.range (u + 1)) st false
  else if i.f0 = 8 ∨ i.f0 = 10 ∨ i.f0 = 6 then addS st i.f2.toNat u
  else if i.f0 = 13 then unkGo u (atS xs u bs n k).1 st false
  else (st, false)
def isMem (i : S46) : Bool := i.f0 == 8 || i.f0 == 9 || i.f0 == 10 || i.f0 == 11
def mixGo (st : ESt) (u r : Nat) : List Nat → Bool
  | [] => false
  | s :: l => if st.has r s && (s == u || st.gone.getD s false) then true else mixGo st u r l
def mixedS (st : ESt) (u r : Nat) : Bool := mixGo st u r (List.range (u + 1))
def loseGo (u r : Nat) : List Nat → ESt → Bool → ESt × Bool
  | [], st, m => (st, m)
  | s :: l, st, m => if st.has r s && (s != u) && !(st.gone.getD s false) then loseGo u r l (st.lose s) true else loseGo u r l st m
def loseS (st : ESt) (u r : Nat) : ESt × Bool := loseGo u r (List.range (u + 1)) st false
def drop1 (u : Nat) (i : S46) (st : ESt) : ESt × Bool := if i.f0 = 9 ∨ i.f0 = 11 then loseS st u i.f2.toNat else (st, false)
def dropS (u : Nat) (i : S46) (st : ESt) : ESt × Bool :=
  if isMem i && mixedS (drop1 u i st).1 u i.f3.toNat then ((loseS (drop1 u i st).1 u i.f3.toNat).1, (loseS (drop1 u i st).1 u i.f3.toNat).2 || (drop1 u i st).2) else drop1 u i st
/-- what each goes to -/
def visB (n : Nat) (b : Bool) : Nat → Bool → List S46 → List (Nat × Nat × S46)
  | _, _, [] => []
  | k, s, i :: r => (if (s || i.f0 == 13) && b then [(n, k, i)] else []) ++ visB n b (k + 1) (if i.f0 = 14 then false else s || i.f0 == 13) r
def visN (reach ins : List Bool) : Nat → List S36 → List (Nat × Nat × S46)
  | _, [] => []
  | n, x :: r => visB n (reach.getD n false) 0 (ins.getD n false) x.f0 ++ visN reach ins (n + 1) r
def visits (reach ins : List Bool) (bs : List S36) : List (Nat × Nat × S46) := visN reach ins 0 bs
def foldD (f : Nat → Nat → S46 → ESt → ESt × Bool) : List (Nat × Nat × S46) → ESt → Bool → ESt × Bool
  | [], st, m => (st, m)
  | (n, k, i) :: r, st, m => foldD f r (f n k i st).1 ((f n k i st).2 || m)
def againGo (f : Nat → Nat → S46 → ESt → ESt × Bool) (vis : List (Nat × Nat × S46)) : Nat → ESt → ESt
  | 0, st => st
  | k + 1, st => if (foldD f vis st false).2 then againGo f vis k (foldD f vis st false).1 else (foldD f vis st false).1
def cntE (st : ESt) : Nat := (st.names.map unset).sum + unset st.gone
def found0 (n u : Nat) : ESt := ⟨List.replicate n (List.replicate (u + 1) false), List.replicate u false⟩
def found1 (xs : List Bool) (u : Nat) (bs : List S36) : ESt := againGo (flowsS xs u bs) (visits (reachS bs) (sidesOf bs).1 bs) (cntE (found0 xs.length u) + 1) (found0 xs.length u)
def foundS (xs : List Bool) (u : Nat) (bs : List S36) : ESt := againGo (fun _ _ => dropS u) (visits (reachS bs) (sidesOf bs).1 bs) (cntE (found1 xs u bs) + 1) (found1 xs u bs)
def keptB (st : ESt) (u : Nat) (i : S46) : Bool := isMem i && !(mixedS st u i.f3.toNat) && (st.names.getD i.f3.toNat []).any id
def ownS (xs : List Bool) (sites : Int) (bs : List S36) : List S41 × Int :=
  if gE xs sites bs = 0 then (((visits (reachS bs) (sidesOf bs).1 bs).filter fun v => keptB (foundS xs sites.toNat bs) sites.toNat v.2.2).map fun v => ⟨v.1, v.2.1⟩, 0) else ([], 14)
def escS (xs : List Bool) (sites : Int) (bs : List S36) : List Bool × Int := if gE xs sites bs = 0 then ((foundS xs sites.toNat bs).gone, 0) else ([], 14)
/-- the shape -/
structure EOk (R u : Nat) (st : ESt) : Prop where
  ln : st.names.length = R
  lr : ∀ j, j < R → (st.names.getD j []).length = u + 1
  lg : st.gone.length = u
theorem EOk.put {R u : Nat} {st : ESt} (h : EOk R u st) (r s : Nat) : EOk R u (st.put r s) := by
  refine ⟨by show (st.names.set _ _).length = R; rw [List.length_set]; exact h.ln, fun j hj => ?_, h.lg⟩
  show ((st.names.set r ((st.names.getD r []).set s true)).getD j []).length = u + 1
  by_cases hr : r < st.names.length
  · rw [List.getD_eq_getElem?_getD]
    by_cases e : r = j
    · subst e
      rw [List.getElem?_set_self hr]
      show ((st.names.getD r []).set s true).length = _
      rw [List.length_set]
      exact h.lr r hj
    · rw [List.getElem?_set_ne e, ← List.getD_eq_getElem?_getD]
      exact h.lr j hj
  · rw [List.set_eq_of_length_le (by omega)]
    exact h.lr j hj
theorem EOk.lose {R u : Nat} {st : ESt} (h : EOk R u st) (s : Nat) : EOk R u (st.lose s) := ⟨h.ln, h.lr, by show (st.gone.set _ _).length = u; rw [List.length_set]; exact h.lg⟩
theorem EOk.add {R u : Nat} {st : ESt} (h : EOk R u st) (r s : Nat) : EOk R u (addS st r s).1 := by
  unfold addS
  split
  · exact h
  · exact h.put r s
theorem unset_setN (l : List Bool) (j : Nat) (h1 : j < l.length) (h : l.getD j false = false) : unset (l.set j true) + 1 = unset l := by
  have := unset_set l (j : Int) (by omega) (by omega) (by unfold rdOf; rw [Int.toNat_natCast]; exact h)
  rwa [Int.toNat_natCast] at this
theorem sum_set {l : List Nat} {j x : Nat} (h : j < l.length) : (l.set j x).sum + l.getD j 0 = l.sum + x := by
  induction l generalizing j with
  | nil => simp at h
  | cons a l ih =>
    cases j with
    | zero => simp [List.sum_cons]; omega
    | succ j =>
      have := ih (j := j) (by simpa using h)
      simp only [List.set_cons_succ, List.sum_cons, List.getD_cons_succ]
      omega
theorem cnt_put {R u : Nat} {st : ESt} (h : EOk R u st) {r s : Nat} (hr : r < R) (hs : s < u + 1) (hh : st.has r s = false) : cntE (st.put r s) + 1 = cntE st := by
  have h1 := unset_setN (st.names.getD r []) s (by rw [h.lr r hr]; exact hs) hh
  have h2 : (st.put r s).names.map unset = (st.names.map unset).set r (unset ((st.names.getD r []).set s true)) := by
    show (st.names.set r _).map unset = _
    rw [List.map_set]
  have h3 := sum_set (l := st.names.map unset) (j := r) (x := unset ((st.names.getD r []).set s true)) (by rw [List.length_map, h.ln]; exact hr)
  have h4 : (st.names.map unset).getD r 0 = unset (st.names.getD r []) := by
    have : r < st.names.length := by rw [h.ln]; exact hr
    simp [this]
  rw [h4] at h3
  unfold cntE
  rw [h2]
  show _ + unset st.gone + 1 = _
  omega
theorem cnt_lose {R u : Nat} {st : ESt} (h : EOk R u st) {s : Nat} (hs : s < u) (hh : st.gone.getD s false = false) : cntE (st.lose s) + 1 = cntE st := by
  have h1 := unset_setN st.gone s (by rw [h.lg]; exact hs) hh
  unfold cntE
  show (st.names.map unset).sum + unset (st.gone.set s true) + 1 = _
  omega
/-- a step: more said, less unset -/
def Falls (st : ESt) (q : ESt × Bool) : Prop := (q.2 = true → cntE q.1 < cntE st) ∧ cntE q.1 ≤ cntE st
theorem Falls.refl (st : ESt) : Falls st (st, false) := ⟨(fun h => by cases h), Nat.le_refl _⟩
theorem add_falls {R u : Nat} {st : ESt} (h : EOk R u st) {r s : Nat} (hr : r < R) (hs : s < u + 1) : Falls st (addS st r s) := by
  unfold addS
  cases hh : st.has r s with
  | true => exact Falls.refl st
  | false =>
    have := cnt_put h hr hs hh
    exact ⟨fun _ => by show cntE (st.put r s) < _; omega, by show cntE (st.put r s) ≤ _; omega⟩
/-- behind a row of steps -/
def FallsM (st0 : ESt) (st : ESt) (m : Bool) : Prop := (m = true → cntE st < cntE st0) ∧ cntE st ≤ cntE st0
theorem FallsM.step {st0 st : ESt} {m : Bool} (h : FallsM st0 st m) {q : ESt × Bool} (hq : Falls st q) : FallsM st0 q.1 (q.2 || m) := by
  refine ⟨fun hh => ?_, Nat.le_trans hq.2 h.2⟩
  rcases Bool.or_eq_true_iff.1 hh with h1 | h1
  · exact Nat.lt_of_lt_of_le (hq.1 h1) h.2
  · exact Nat.lt_of_le_of_lt hq.2 (h.1 h1)
theorem move_ok {R u : Nat} {st0 : ESt} (a b : Nat) (ha : a < R) : ∀ (l : List Nat) (st : ESt) (m : Bool), (∀ s ∈ l, s < u + 1) → EOk R u st → FallsM st0 st m → EOk R u (moveGo a b l st m).1 ∧ FallsM st0 (moveGo a b l st m).1 (moveGo a b l st m).2 := by
  intro l
  induction l with
  | nil => intro st m _ h1 h2; exact ⟨h1, h2⟩
  | cons s l ih =>
    intro st m hl h1 h2
    simp only [moveGo]
    split
    · exact ih _ _ (fun x hx => hl x (by simp [hx])) (h1.add _ _) (h2.step (add_falls h1 ha (hl s (by simp))))
    · exact ih _ _ (fun x hx => hl x (by simp [hx])) h1 h2
theorem unk_ok {R u : Nat} {st0 : ESt} : ∀ (l : List Int) (st : ESt) (m : Bool), (∀ s ∈ l, s.toNat < R) → EOk R u st → FallsM st0 st m → EOk R u (unkGo u l st m).1 ∧ FallsM st0 (unkGo u l st m).1 (unkGo u l st m).2 := by
  intro l
  induction l with
  | nil => intro st m _ h1 h2; exact ⟨h1, h2⟩
  | cons s l ih =>
    intro st m hl h1 h2
    simp only [unkGo]
    exact ih _ _ (fun x hx => hl x (by simp [hx])) (h1.add _ _) (h2.step (add_falls h1 (hl s (by simp)) (by omega)))
theorem lose_ok {R u : Nat} {st0 : ESt} (r : Nat) : ∀ (l : List Nat) (st : ESt) (m : Bool), (∀ s ∈ l, s < u + 1) → EOk R u st → FallsM st0 st m → EOk R u (loseGo u r l st m).1 ∧ FallsM st0 (loseGo u r l st m).1 (loseGo u r l st m).2 := by
  intro l
  induction l with
  | nil => intro st m _ h1 h2; exact ⟨h1, h2⟩
  | cons s l ih =>
    intro st m hl h1 h2
    simp only [loseGo]
    split
    · rename_i hh
      simp only [Bool.and_eq_true, bne_iff_ne, ne_eq, Bool.not_eq_true'] at hh
      have hs := hl s (by simp)
      have hc := cnt_lose h1 (s := s) (by have := hh.1.2; omega) hh.2
      exact ih _ _ (fun x hx => hl x (by simp [hx])) (h1.lose _) ⟨fun _ => by have := h2.2; omega, by have := h2.2; omega⟩
    · exact ih _ _ (fun x hx => hl x (by simp [hx])) h1 h2
theorem FallsM.of {st : ESt} {q : ESt × Bool} (h : FallsM st q.1 q.2) : Falls st q := h
theorem loseS_ok {R u : Nat} {st : ESt} (h : EOk R u st) (r : Nat) : EOk R u (loseS st u r).1 ∧ Falls st (loseS st u r) := by
  have := lose_ok (st0 := st) r (List.range (u + 1)) st false (fun s hs => by simpa using hs) h (Falls.refl st)
  exact this
theorem drop_ok {R u : Nat} {st : ESt} (h : EOk R u st) (i : S46) : EOk R u (dropS u i st).1 ∧ Falls st (dropS u i st) := by
  have h1 : EOk R u (drop1 u i st).1 ∧ Falls st (drop1 u i st) := by
    unfold drop1
    split
    · exact loseS_ok h _
    · exact ⟨h, Falls.refl st⟩
  unfold dropS
  split
  · have h2 := loseS_ok h1.1 i.f3.toNat
    exact ⟨h2.1, FallsM.step (st0 := st) h1.2 h2.2⟩
  · exact h1
end Go.Proofs.Ytjmeignhhheckaa.H
namespace Go.Proofs.Ytjmeignhhheckaa.H
open Go.RowKit Go.Maps Go.Proofs.YtjmeignhhheckaaW.PrintWords Go.Proofs.YtjmeignhhheckaaW.PrintLast Go.Proofs.Ytjmeignhhheckaa.Q
set_option maxRecDepth 100000
structure EP where
  w0 : World
  A0 : Option Addr
  c0 : Nat
  l0 : List Bool
  u : Nat
  A2 : Option Addr
  c2 : Nat
  bs : List S36
  gs : Nat
  gr : Nat
  cr : Nat
  gi : Nat
  ci : Nat
  gg : Nat
  gn : Nat
  cn : Nat
  CR : Array Value
  CI : Array Value
  CN : Array Value
  rb : List Nat
  reach : List Bool
  ins : List Bool
  nv : Value
def rowV (u g : Nat) : Value := .slice (some ⟨g, 0, none⟩) ((u + 1 : Nat) : Nat) (u + 1)
structure EPok (p : EP) : Prop where
  h0 : Kd.C Kd.bool p.w0 p.A0 p.l0.length p.l0
  hc0 : p.l0.length ≤ p.c0
  h2 : Kd.C k36 p.w0 p.A2 p.bs.length p.bs
  hc2 : p.bs.length ≤ p.c2
  nb : p.bs.length ≤ 5000
  ub : p.u ≤ 8192
  rn : p.rb.length ≤ 1024
  crl : p.bs.length ≤ p.cr
  cil : p.bs.length ≤ p.ci
  cnl : p.rb.length ≤ p.cn
  nve : p.rb.length ≠ 0 → p.nv = .slice (some ⟨p.gn, 0, none⟩) p.rb.length p.cn
  nvo : ∃ A c, p.nv = .slice A p.rb.length c
  crv : ∀ j, j < p.bs.length → p.CR[j]? = some (.bool (p.reach.getD j false))
  civ : ∀ j, j < p.bs.length → p.CI[j]? = some (.bool (p.ins.getD j false))
  cnv : ∀ j, j < p.rb.length → p.CN[j]? = some (rowV p.u (p.rb.getD j 0))
  rgg : p.gr ≠ p.gg
  igg : p.gi ≠ p.gg
  rrb : p.gr ∉ p.rb
  irb : p.gi ∉ p.rb
  grb : p.gg ∉ p.rb
  nd : p.rb.Nodup
  brb : ∀ g ∈ p.rb, p.w0.heap.size ≤ g
  bgg : p.w0.heap.size ≤ p.gg
structure ES (p : EP) (st : ESt) (w : World) : Prop where
  b : Below p.w0.heap.size p.w0 w
  s : w.heap[p.gs]? = some (.cells #[.slice p.A0 p.l0.length p.c0, .int .i64 p.u, .slice p.A2 p.bs.length p.c2, .slice (some ⟨p.gr, 0, none⟩) p.bs.length p.cr, .slice (some ⟨p.gi, 0, none⟩) p.bs.length p.ci, p.nv, .slice (some ⟨p.gg, 0, none⟩) p.u p.u] 128 (0, 0))
  r : w.heap[p.gr]? = some (.cells p.CR 4 (0, 0))
  i : w.heap[p.gi]? = some (.cells p.CI 4 (0, 0))
  n : p.rb.length ≠ 0 → w.heap[p.gn]? = some (.cells p.CN 22 (0, 0))
  rows : ∀ j, j < p.rb.length → BB w (p.rb.getD j 0) (st.names.getD j [])
  g : BB w p.gg st.gone
  ok : EOk p.rb.length p.u st
/-- what is kept: all old blocks but the rows and what is gone -/
def Fr (p : EP) (w w' : World) : Prop := w.heap.size ≤ w'.heap.size ∧ ∀ k, k < w.heap.size → k ∉ p.rb → k ≠ p.gg → w'.heap[k]? = w.heap[k]?
theorem Fr.refl (p : EP) (w : World) : Fr p w w := ⟨Nat.le_refl _, fun _ _ _ _ => rfl⟩
theorem Fr.trans {p : EP} {w w1 w2 : World} (h : Fr p w w1) (k : Fr p w1 w2) : Fr p w w2 :=
  ⟨Nat.le_trans h.1 k.1, fun a ha h1 h2 => (k.2 a (Nat.lt_of_lt_of_le ha h.1) h1 h2).trans (h.2 a ha h1 h2)⟩
theorem Fr.of_below {p : EP} {w w1 : World} (h : Below w.heap.size w w1) : Fr p w w1 := ⟨h.size, fun k hk _ _ => h.block k hk⟩
section
variable {p : EP} {st : ESt} {w w1 : World}
theorem ES.below (h : ES p st w) (hb : Below w.heap.size w w1) : ES p st w1 :=
  ⟨below_weaken h.b h.b.size hb, blk_below h.s hb, blk_below h.r hb, blk_below h.i hb, fun hn => blk_below (h.n hn) hb, fun j hj => blk_below (h.rows j hj) hb, blk_below h.g hb, h.ok⟩
theorem ES.drew (h : ES p st w) : ES p st w.drew := h.below (pw_below_drewN (Below.refl _ w) 1)
theorem ES.alloc (h : ES p st w) (o : Obj) : ES p st (w.alloc o) := h.below (below_alloc (Below.refl _ w) o)
theorem mem_rb {rb : List Nat} {j : Nat} (h : j < rb.length) : rb.getD j 0 ∈ rb := by
  rw [List.getD_eq_getElem?_getD, List.getElem?_eq_getElem h]; exact List.getElem_mem h
theorem rb_inj {rb : List Nat} (hn : rb.Nodup) {i j : Nat} (hi : i < rb.length) (hj : j < rb.length) (e : rb.getD i 0 = rb.getD j 0) : i = j := by
  rw [List.getD_eq_getElem?_getD, List.getD_eq_getElem?_getD, List.getElem?_eq_getElem hi, List.getElem?_eq_getElem hj] at e
  exact (List.getElem_inj hn).1 (show rb[i] = rb[j] from e)
theorem set_frame (w : World) (g i : Nat) (v : Value) {k : Nat} (hk : k ≠ g) : (w.setCell ⟨g, i, none⟩ v).heap[k]? = w.heap[k]? := Below.heap_setCell w ⟨g, i, none⟩ v k hk
theorem getD_set_bb {l : List (List Bool)} {i j : Nat} {x : List Bool} (h : i < l.length) : (l.set i x).getD j [] = if i = j then x else l.getD j [] := by
  simp only [List.getD_eq_getElem?_getD]
  by_cases e : i = j
  · subst e; simp [h]
  · rw [List.getElem?_set_ne e, if_neg e]
theorem ES.put (ok : EPok p) (h : ES p st w) {r s : Nat} (hr : r < p.rb.length) : ES p (st.put r s) (w.setCell ⟨p.rb.getD r 0, s, none⟩ (.bool true)) ∧ Fr p w (w.setCell ⟨p.rb.getD r 0, s, none⟩ (.bool true)) := by
  have hm := mem_rb hr
  have hne : ∀ (k : Nat), k ∉ p.rb → k ≠ p.rb.getD r 0 := fun k hk e => hk (e ▸ hm)
  have hs := blk_ne h.s (h.rows r hr) (by decide)
  refine ⟨⟨h.b.setCell (ok.brb _ hm) _, (set_frame w _ s _ hs).trans h.s, (set_frame w _ s _ (hne _ ok.rrb)).trans h.r, (set_frame w _ s _ (hne _ ok.irb)).trans h.i,
    fun hn => (set_frame w _ s _ (blk_ne (h.n hn) (h.rows r hr) (by decide))).trans (h.n hn), fun j hj => ?_, (set_frame w _ s _ (hne _ ok.grb)).trans h.g, h.ok.put r s⟩, ?_⟩
  · show BB _ _ ((st.names.set r ((st.names.getD r []).set s true)).getD j [])
    rw [getD_set_bb (by rw [h.ok.ln]; exact hr)]
    by_cases e : r = j
    · subst e
      rw [if_pos rfl]
      exact (h.rows r hr).set s true
    · rw [if_neg e]
      exact (set_frame w _ s _ (fun e2 => e (rb_inj ok.nd hr hj e2.symm))).trans (h.rows j hj)
  · exact ⟨by simp, fun k hk h1 h2 => set_frame w _ s _ (hne k h1)⟩
theorem ES.lose (ok : EPok p) (h : ES p st w) (s : Nat) : ES p (st.lose s) (w.setCell ⟨p.gg, s, none⟩ (.bool true)) ∧ Fr p w (w.setCell ⟨p.gg, s, none⟩ (.bool true)) := by
  refine ⟨⟨h.b.setCell ok.bgg _, (set_frame w _ s _ (blk_ne h.s h.g (by decide))).trans h.s, (set_frame w _ s _ ok.rgg).trans h.r, (set_frame w _ s _ ok.igg).trans h.i,
    fun hn => (set_frame w _ s _ (blk_ne (h.n hn) h.g (by decide))).trans (h.n hn), fun j hj => (set_frame w _ s _ (show p.rb.getD j 0 ≠ p.gg from fun e => ok.grb (by rw [← e]; exact mem_rb hj))).trans (h.rows j hj), h.g.set s true, h.ok.lose s⟩, ?_⟩
  exact ⟨by simp, fun k hk h1 h2 => set_frame w _ s _ h2⟩
theorem ES.row (h : ES p st w) (ok : EPok p) {r : Nat} (hr : r < p.rb.length) : w.cell? ⟨p.gs, 5, none⟩ = some (.slice (some ⟨p.gn, 0, none⟩) p.rb.length p.cn) ∧ w.cell? ⟨p.gn, r, none⟩ = some (.slice (some ⟨p.rb.getD r 0, 0, none⟩) (p.u + 1) (p.u + 1)) := by
  refine ⟨?_, ?_⟩
  · rw [blk_cell h.s, ← ok.nve (by omega)]; rfl
  · rw [blk_cell (h.n (by omega)), ok.cnv r hr]; rfl
theorem ES.has (h : ES p st w) {r s : Nat} (hr : r < p.rb.length) (hs : s < p.u + 1) : w.cell? ⟨p.rb.getD r 0, s, none⟩ = some (.bool (st.has r s)) := by
  rw [blk_cell (h.rows r hr)]
  have : s < (st.names.getD r []).length := by rw [h.ok.lr r hr]; exact hs
  simp only [List.getElem?_toArray, List.getElem?_map]
  rw [List.getElem?_eq_getElem this]
  unfold ESt.has
  rw [List.getD_eq_getElem?_getD (l := st.names.getD r []), List.getElem?_eq_getElem this]
  rfl
theorem ES.isGone (h : ES p st w) {s : Nat} (hs : s < p.u) : w.cell? ⟨p.gg, s, none⟩ = some (.bool (st.gone.getD s false)) := by
  rw [blk_cell h.g]
  have : s < st.gone.length := by rw [h.ok.lg]; exact hs
  simp [this]
end
theorem add_any (p : EP) (ok : EPok p) (st : ESt) (r s : Nat) (w : World) (h : ES p st w) (hr : r < p.rb.length) (hs : s < p.u + 1) :
    Calls Try.prog 129 #[.pointer (some ⟨p.gs, 0, none⟩), .int .i64 r, .int .i64 s] w fun e w' => e = .returned (.bool (addS st r s).2) ∧ ES p (addS st r s).1 w' ∧ Fr p w w' := by
  have HE := Lib.hid h
  have HOK := Lib.hid ok
  have hrn := ok.rn
  have hub := ok.ub
  obtain ⟨g0, g1⟩ := h.row ok hr
  have g2 := h.has hr hs
  have g3 := blk_frozen (h.rows r hr) s
  have HP := Lib.hid (h.put ok (s := s) hr)
  have hcn := ok.cnl
  clear h ok
  generalize p.rb.getD r 0 = g at *
  cases hh : st.has r s with
  | true =>
    have HA := Lib.hid (show addS st r s = (st, false) from by unfold addS; rw [if_pos hh])
    rw [HA.out]
    rw [hh] at g2
    clear hh
    go_enter Try.func129, Try.ntmps129
    go_wp2_with fail
    go_ret
    exact ⟨rfl, HE.out, Fr.refl _ _⟩
  | false =>
    have HA := Lib.hid (show addS st r s = (st.put r s, true) from by unfold addS; rw [if_neg (by rw [hh]; decide)])
    rw [HA.out]
    rw [hh] at g2
    clear hh
    go_enter Try.func129, Try.ntmps129
    go_wp2_with fail
    go_ret
    exact ⟨rfl, HP.out⟩
theorem unknown_any (p : EP) (st : ESt) (w : World) (h : ES p st w) : Calls Try.prog 105 #[.pointer (some ⟨p.gs, 0, none⟩)] w fun e w' => e = .returned (.int .i64 p.u) ∧ w = w' := by
  have g0 := (blk_cell h.s 1).trans rfl
  clear h
  go_enter Try.func105, Try.ntmps105
  go_wp2_with fail
  go_ret
  exact ⟨rfl, rfl⟩
end Go.Proofs.Ytjmeignhhheckaa.H
namespace Go.Proofs.Ytjmeignhhheckaa.H
open Go.RowKit Go.Maps Go.Proofs.YtjmeignhhheckaaW.PrintWords Go.Proofs.YtjmeignhhheckaaW.PrintLast Go.Proofs.Ytjmeignhhheckaa.Q
set_option maxRecDepth 100000
def insC (i : S46) : Array Value := #[.int .u8 i.f0, .int .u8 i.f1, .int .i64 i.f2, .int .i64 i.f3, .int .i64 i.f4, .int .i64 i.f5]
theorem based_any (i : S46) (w : World) : Calls Try.prog 75 #[.agg #[.int .u8 i.f0, .int .u8 i.f1, .int .i64 i.f2, .int .i64 i.f3, .int .i64 i.f4, .int .i64 i.f5]] w fun e w' => e = .returned (.tuple #[.int .i64 (if isMem i then i.f3 else 0), .bool (isMem i)]) ∧ Below w.heap.size w w' := by
  obtain ⟨f0, f1, f2, f3, f4, f5⟩ := i
  have HM := Lib.hid (show isMem ⟨f0, f1, f2, f3, f4, f5⟩ = (f0 == 8 || f0 == 9 || f0 == 10 || f0 == 11) from rfl)
  have HB := Lib.hid (below_alloc (Below.refl w.heap.size w) (.cells #[.int .u8 f0, .int .u8 f1, .int .i64 f2, .int .i64 f3, .int .i64 f4, .int .i64 f5] 46))
  have hu46 := Try.underlying46
  dsimp only
  rw [HM.out]
  clear HM
  by_cases h8 : f0 = 8
  · subst h8
    go_enter Try.func75, Try.ntmps75
    go_wp2_with fail
    go_ret2
    exact ⟨rfl, HB.out⟩
  have h8b : (f0 == 8) = false := beq_eq_false_iff_ne.2 h8
  by_cases h9 : f0 = 9
  · subst h9
    go_enter Try.func75, Try.ntmps75
    go_wp2_with fail
    go_ret2
    exact ⟨rfl, HB.out⟩
  have h9b : (f0 == 9) = false := beq_eq_false_iff_ne.2 h9
  by_cases h10 : f0 = 10
  · subst h10
    go_enter Try.func75, Try.ntmps75
    go_wp2_with fail
    go_ret2
    exact ⟨rfl, HB.out⟩
  have h10b : (f0 == 10) = false := beq_eq_false_iff_ne.2 h10
  by_cases h11 : f0 = 11
  · subst h11
    go_enter Try.func75, Try.ntmps75
    go_wp2_with fail
    go_ret2
    exact ⟨rfl, HB.out⟩
  have h11b : (f0 == 11) = false := beq_eq_false_iff_ne.2 h11
  have HR := Lib.hid (show (f0 == 8 || f0 == 9 || f0 == 10 || f0 == 11) = false from by rw [h8b, h9b, h10b, h11b]; rfl)
  rw [HR.out]
  clear h8 h9 h10 h11
  go_enter Try.func75, Try.ntmps75
  go_wp2_with fail
  go_ret2
  exact ⟨rfl, HB.out⟩
/-- mixed: what is left to look at -/
theorem mix_drop (st : ESt) (u r q : Nat) (hq : q < u + 1) : mixGo st u r ((List.range (u + 1)).drop q) = if st.has r q && (q == u || st.gone.getD q false) then true else mixGo st u r ((List.range (u + 1)).drop (q + 1)) := by
  rw [List.drop_eq_getElem_cons (by simpa using hq), List.getElem_range, mixGo]
theorem mixed_any (p : EP) (ok : EPok p) (st : ESt) (r : Nat) (w : World) (h : ES p st w) (hr : r < p.rb.length) :
    Calls Try.prog 76 #[.pointer (some ⟨p.gs, 0, none⟩), .int .i64 r] w fun e w' => e = .returned (.bool (mixedS st p.u r)) ∧ w = w' := by
  have HE := Lib.hid h
  have hrn := ok.rn
  have hub := ok.ub
  have hcn := ok.cnl
  obtain ⟨g0, g1⟩ := h.row ok hr
  have g4 := (blk_cell h.s 6).trans rfl
  have HR := Lib.hid (show mixedS st p.u r = mixGo st p.u r ((List.range (p.u + 1)).drop 0) from rfl)
  have HHAS := Lib.hid (show ∀ q, q < p.u + 1 → w.cell? ⟨p.rb.getD r 0, q, none⟩ = some (.bool (st.has r q)) from fun q hq => h.has hr hq)
  have HGON := Lib.hid (show ∀ q, q < p.u → w.cell? ⟨p.gg, q, none⟩ = some (.bool (st.gone.getD q false)) from fun q hq => h.isGone hq)
  generalize p.rb.getD r 0 = g at g1 HHAS
  generalize mixedS st p.u r = res at *
  clear h ok
  go_enter Try.func76, Try.ntmps76
  go_wp2_with fail
  go_loop [15] (fun j => ∃ q : Nat, q ≤ p.u + 1 ∧ j = .int .i64 q ∧ res = mixGo st p.u r ((List.range (p.u + 1)).drop q)) (fun j => p.u + 1 - (intOf j).toNat)
  case atStart => exact ⟨0, by omega, rfl, HR.out⟩
  case round =>
    clear HR
    obtain ⟨q, hq, rfl, hr2⟩ := hrel
    by_cases hlt : q < p.u + 1
    · rw [mix_drop st p.u r q hlt] at hr2
      have HR := Lib.hid hr2
      clear hr2
      have g2 := HHAS.out q hlt
      cases hh : st.has r q with
      | false =>
        rw [hh] at g2 HR
        clear hh
        have HR2 := Lib.hid (show res = mixGo st p.u r ((List.range (p.u + 1)).drop (q + 1)) from HR.out)
        clear HR
        go_wp2_with fail
        go_round
        case rel => exact ⟨q + 1, by omega, by go_num, HR2.out⟩
        case measure => simp [intOf]; omega
      | true =>
        rw [hh] at g2 HR
        clear hh
        by_cases hu : q = p.u
        · have HR2 := Lib.hid (show res = true from by have := HR.out; rwa [hu, if_pos (by simp)] at this)
          have hub2 : ((q : Int) == (p.u : Int)) = true := by rw [hu]; exact beq_self_eq_true _
          clear HR hu
          go_wp2_with (go_at_call 105; go_loud (refine (unknown_any p st _ HE.out).mono ?_; rintro e w2 ⟨rfl, rfl⟩))
          go_ret
          exact ⟨by rw [HR2.out]; rfl, rfl⟩
        · have hub2 : ((q : Int) == (p.u : Int)) = false := beq_eq_false_iff_ne.2 (fun e => hu (by omega))
          have hlu : q < p.u := by omega
          have g3 := HGON.out q hlu
          have HR2 := Lib.hid (show res = if st.gone.getD q false then true else mixGo st p.u r ((List.range (p.u + 1)).drop (q + 1)) from by
            have := HR.out
            rw [show (q == p.u) = false from beq_eq_false_iff_ne.2 hu, Bool.true_and, Bool.false_or] at this
            exact this)
          clear HR hu
          generalize st.gone.getD q false = gq at g3 HR2
          cases gq with
          | true =>
            have HR := Lib.hid (show res = true from HR2.out)
            clear HR2
            go_wp2_with (go_at_call 105; go_loud (refine (unknown_any p st _ HE.out).mono ?_; rintro e w2 ⟨rfl, rfl⟩))
            go_ret
            exact ⟨by rw [HR.out]; rfl, rfl⟩
          | false =>
            go_wp2_with (go_at_call 105; go_loud (refine (unknown_any p st _ HE.out).mono ?_; rintro e w2 ⟨rfl, rfl⟩))
            go_round
            case rel => exact ⟨q + 1, by omega, by go_num, HR2.out⟩
            case measure => simp [intOf]; omega
    · rw [List.drop_of_length_le (by simp; omega)] at hr2
      have HR := Lib.hid (show res = false from hr2)
      clear hr2
      go_wp2_with fail
      go_ret
      exact ⟨by rw [HR.out]; rfl, rfl⟩
/-- lose: what is left to look at -/
theorem lose_drop (st : ESt) (m : Bool) (u r q : Nat) (hq : q < u + 1) : loseGo u r ((List.range (u + 1)).drop q) st m = if st.has r q && (q != u) && !(st.gone.getD q false) then loseGo u r ((List.range (u + 1)).drop (q + 1)) (st.lose q) true else loseGo u r ((List.range (u + 1)).drop (q + 1)) st m := by
  rw [List.drop_eq_getElem_cons (by simpa using hq), List.getElem_range, loseGo]
theorem lose_any (p : EP) (ok : EPok p) (st : ESt) (r : Nat) (w : World) (h : ES p st w) (hr : r < p.rb.length) :
    Calls Try.prog 104 #[.pointer (some ⟨p.gs, 0, none⟩), .int .i64 r] w fun e w' => e = .returned (.bool (loseS st p.u r).2) ∧ ES p (loseS st p.u r).1 w' ∧ Fr p w w' := by
  have HE := Lib.hid h
  have HOK := Lib.hid ok
  have hrn := ok.rn
  have hub := ok.ub
  have hcn := ok.cnl
  obtain ⟨g0, g1⟩ := h.row ok hr
  have HR := Lib.hid (show loseGo p.u r ((List.range (p.u + 1)).drop 0) st false = loseS st p.u r from rfl)
  have HROW := Lib.hid (show ∀ st' w', ES p st' w' → w'.cell? ⟨p.gs, 5, none⟩ = some (.slice (some ⟨p.gn, 0, none⟩) p.rb.length p.cn) ∧ w'.cell? ⟨p.gn, r, none⟩ = some (.slice (some ⟨p.rb.getD r 0, 0, none⟩) (p.u + 1) (p.u + 1)) ∧ ∀ q, q < p.u + 1 → w'.cell? ⟨p.rb.getD r 0, q, none⟩ = some (.bool (st'.has r q)) from fun st' w' h' => ⟨(h'.row ok hr).1, (h'.row ok hr).2, fun q hq => h'.has hr hq⟩)
  generalize p.rb.getD r 0 = g at g1 HROW
  have HFR := Lib.hid (Fr.refl p w)
  generalize loseS st p.u r = res at *
  clear h ok
  go_enter Try.func104, Try.ntmps104
  go_wp2_with fail
  go_loopw [5, 16] (fun m j wr => ∃ (q : Nat) (st' : ESt) (mb : Bool), q ≤ p.u + 1 ∧ j = .int .i64 q ∧ m = .bool mb ∧ loseGo p.u r ((List.range (p.u + 1)).drop q) st' mb = res ∧ ES p st' wr ∧ Fr p w wr) (fun _ j _ => p.u + 1 - (intOf j).toNat)
  case atStart => exact ⟨0, st, false, by omega, rfl, rfl, HR.out, HE.out, HFR.out⟩
  case round =>
    clear HR HE HFR g0 g1
    obtain ⟨q, st', mb, hq, rfl, rfl, hr2, he, hfr⟩ := hrel
    have HE := Lib.hid he
    have HFR := Lib.hid hfr
    clear he hfr
    by_cases hlt : q < p.u + 1
    · rw [lose_drop st' mb p.u r q hlt] at hr2
      have HR := Lib.hid hr2
      clear hr2
      have HC := Lib.hid (HROW.out st' wr HE.out)
      have g2 := HC.out.2.2 q hlt
      cases hh : st'.has r q with
      | false =>
        rw [hh] at g2 HR
        clear hh
        have HR2 := Lib.hid (show loseGo p.u r ((List.range (p.u + 1)).drop (q + 1)) st' mb = res from HR.out)
        clear HR
        go_wp2_with fail
        go_roundw
        case rel => exact ⟨q + 1, st', mb, by omega, by go_num, rfl, HR2.out, HE.out, HFR.out⟩
        case measure => simp [intOf]; omega
      | true =>
        rw [hh] at g2 HR
        clear hh
        by_cases hu : q = p.u
        · have HR2 := Lib.hid (show loseGo p.u r ((List.range (p.u + 1)).drop (q + 1)) st' mb = res from by have := HR.out; rwa [show (q != p.u) = false from by rw [hu]; simp, Bool.and_false, Bool.false_and, if_neg (by decide)] at this)
          have hub2 : ((q : Int) != (p.u : Int)) = false := by rw [hu]; simp
          clear HR hu
          go_wp2_with (go_at_call 105; go_loud (refine (unknown_any p st' _ HE.out).mono ?_; rintro e w2 ⟨rfl, rfl⟩))
          go_roundw
          case rel => exact ⟨q + 1, st', mb, by omega, by go_num, rfl, HR2.out, HE.out, HFR.out⟩
          case measure => simp [intOf]; omega
        · have hub2 : ((q : Int) != (p.u : Int)) = true := bne_iff_ne.2 (fun e => hu (by omega))
          have hlu : q < p.u := by omega
          have g3 := HE.out.isGone hlu
          have g4 := (blk_cell HE.out.s 6).trans rfl
          have HR2 := Lib.hid (show (if !(st'.gone.getD q false) then loseGo p.u r ((List.range (p.u + 1)).drop (q + 1)) (st'.lose q) true else loseGo p.u r ((List.range (p.u + 1)).drop (q + 1)) st' mb) = res from by
            have := HR.out
            rw [show (q != p.u) = true from bne_iff_ne.2 hu, Bool.true_and, Bool.true_and] at this
            exact this)
          have HP := Lib.hid (HE.out.lose HOK.out q)
          have g5 := blk_frozen HE.out.g q
          clear HR hu
          generalize st'.gone.getD q false = gq at g3 HR2
          cases gq with
          | true =>
            have HR := Lib.hid (show loseGo p.u r ((List.range (p.u + 1)).drop (q + 1)) st' mb = res from HR2.out)
            clear HR2
            go_wp2_with (go_at_call 105; go_loud (refine (unknown_any p st' _ HE.out).mono ?_; rintro e w2 ⟨rfl, rfl⟩))
            go_roundw
            case rel => exact ⟨q + 1, st', mb, by omega, by go_num, rfl, HR.out, HE.out, HFR.out⟩
            case measure => simp [intOf]; omega
          | false =>
            have HR := Lib.hid (show loseGo p.u r ((List.range (p.u + 1)).drop (q + 1)) (st'.lose q) true = res from HR2.out)
            clear HR2
            go_wp2_with (go_at_call 105; go_loud (refine (unknown_any p st' _ HE.out).mono ?_; rintro e w2 ⟨rfl, rfl⟩))
            go_roundw
            case rel => exact ⟨q + 1, st'.lose q, true, by omega, by go_num, rfl, HR.out, HP.out.1, HFR.out.trans HP.out.2⟩
            case measure => simp [intOf]; omega
    · rw [List.drop_of_length_le (by simp; omega)] at hr2
      have HR := Lib.hid (show (st', mb) = res from hr2)
      clear hr2
      go_wp2_with fail
      go_ret
      exact ⟨by rw [← HR.out]; rfl, by rw [← HR.out]; exact HE.out, HFR.out⟩
end Go.Proofs.Ytjmeignhhheckaa.H
namespace Go.Proofs.Ytjmeignhhheckaa.H
open Go.RowKit Go.Maps Go.Proofs.YtjmeignhhheckaaW.PrintWords Go.Proofs.YtjmeignhhheckaaW.PrintLast Go.Proofs.Ytjmeignhhheckaa.Q
set_option maxRecDepth 100000
theorem unknown_same (p : EP) (st : ESt) (w : World) (h : ES p st w) : Calls Try.prog 105 #[.pointer (some ⟨p.gs, 0, none⟩)] w fun e w' => e = .returned (.int .i64 p.u) ∧ w' = w := (unknown_any p st w h).mono fun _ _ h => ⟨h.1, h.2.symm⟩
theorem move_drop (st : ESt) (m : Bool) (u a b q : Nat) (hq : q < u + 1) : moveGo a b ((List.range (u + 1)).drop q) st m = if st.has b q then moveGo a b ((List.range (u + 1)).drop (q + 1)) (addS st a q).1 ((addS st a q).2 || m) else moveGo a b ((List.range (u + 1)).drop (q + 1)) st m := by
  rw [List.drop_eq_getElem_cons (by simpa using hq), List.getElem_range, moveGo]
theorem ES.newb {p : EP} {st : ESt} {w : World} (h : ES p st w) {g : Nat} (hg : w.heap.size ≤ g) : g ∉ p.rb ∧ g ≠ p.gg := by
  refine ⟨fun hm => ?_, fun e => ?_⟩
  · obtain ⟨j, hj, e⟩ := List.getElem_of_mem hm
    have := blk_lt (h.rows j hj)
    rw [List.getD_eq_getElem?_getD, List.getElem?_eq_getElem hj] at this
    simp only [Option.getD_some] at this
    omega
  · have := blk_lt h.g
    omega
theorem Fr.blk {p : EP} {w w1 : World} (h : Fr p w w1) {g : Nat} {o : Obj} (hb : w.heap[g]? = some o) (hg : g ∉ p.rb ∧ g ≠ p.gg) : w1.heap[g]? = some o := (h.2 g (blk_lt hb) hg.1 hg.2).trans hb
/-- flows, where nothing is looked for in memory: an InNew -/
theorem flows_new (p : EP) (ok : EPok p) (st : ESt) (n k : Int) (f1 f5 : Int) (f3 : Int) (a s : Nat) (w : World) (h : ES p st w) (ha : a < p.rb.length) (hs : s < p.u + 1) :
    Calls Try.prog 102 #[.pointer (some ⟨p.gs, 0, none⟩), .agg #[.int .i64 n, .int .i64 k], .agg #[.int .u8 7, .int .u8 f1, .int .i64 a, .int .i64 f3, .int .i64 s, .int .i64 f5]] w fun e w' => e = .returned (.bool (addS st a s).2) ∧ ES p (addS st a s).1 w' ∧ Fr p w w' := by
  have HOK := Lib.hid ok
  have HB := Lib.hid (show Below w.heap.size w ((w.alloc (.cells #[.int .i64 n, .int .i64 k] 41)).alloc (.cells #[.int .u8 7, .int .u8 f1, .int .i64 a, .int .i64 f3, .int .i64 s, .int .i64 f5] 46)) from below_alloc (below_alloc (Below.refl _ _) _) _)
  have HE := Lib.hid (h.below HB.out)
  clear ok h
  have hu46 := Try.underlying46
  have hu41 := Try.underlying41
  go_enter Try.func102, Try.ntmps102
  go_wp2_with (go_at_call 129; go_loud (refine (add_any p HOK.out st a s _ HE.out ha hs).mono ?_; rintro e w1 ⟨rfl, he, hf⟩; have HE1 := Lib.hid he; have HF1 := Lib.hid ((Fr.of_below HB.out).trans hf); clear he hf))
  go_ret
  exact ⟨rfl, HE1.out, HF1.out⟩
/-- flows: a load, or a shared word: of unknown origin -/
theorem flows_unk (p : EP) (ok : EPok p) (st : ESt) (n k : Int) (f0 f1 f3 f4 f5 : Int) (a : Nat) (w : World) (h : ES p st w) (ha : a < p.rb.length) (h0 : f0 = 8 ∨ f0 = 10 ∨ f0 = 6) :
    Calls Try.prog 102 #[.pointer (some ⟨p.gs, 0, none⟩), .agg #[.int .i64 n, .int .i64 k], .agg #[.int .u8 f0, .int .u8 f1, .int .i64 a, .int .i64 f3, .int .i64 f4, .int .i64 f5]] w fun e w' => e = .returned (.bool (addS st a p.u).2) ∧ ES p (addS st a p.u).1 w' ∧ Fr p w w' := by
  have HOK := Lib.hid ok
  have HB := Lib.hid (show Below w.heap.size w ((w.alloc (.cells #[.int .i64 n, .int .i64 k] 41)).alloc (.cells #[.int .u8 f0, .int .u8 f1, .int .i64 a, .int .i64 f3, .int .i64 f4, .int .i64 f5] 46)) from below_alloc (below_alloc (Below.refl _ _) _) _)
  have HE := Lib.hid (h.below HB.out)
  have HI := Lib.hid (show ((w.alloc (.cells #[.int .i64 n, .int .i64 k] 41)).alloc (.cells #[.int .u8 f0, .int .u8 f1, .int .i64 a, .int .i64 f3, .int .i64 f4, .int .i64 f5] 46)).heap[w.heap.size + 1]? = some (.cells #[.int .u8 f0, .int .u8 f1, .int .i64 a, .int .i64 f3, .int .i64 f4, .int .i64 f5] 46 (0, 0)) from by
    have := blk_new (w.alloc (.cells #[.int .i64 n, .int .i64 k] 41)) (.cells #[.int .u8 f0, .int .u8 f1, .int .i64 a, .int .i64 f3, .int .i64 f4, .int .i64 f5] 46)
    rwa [World.size_alloc] at this)
  clear ok h
  have hu46 := Try.underlying46
  have hu41 := Try.underlying41
  rcases h0 with rfl | rfl | rfl
  all_goals
    go_enter Try.func102, Try.ntmps102
    go_wp2_with fail
    generalize (w.alloc (.cells #[.int .i64 n, .int .i64 k] 41)).alloc (.cells #[.int .u8 _, .int .u8 f1, .int .i64 a, .int .i64 f3, .int .i64 f4, .int .i64 f5] 46) = W at *
    have g2 := (blk_cell HI.out 2).trans rfl
    refine wp_region_still_tail 5 (by kernel_rfl) (by kernel_rfl) ?_
    simp only [List.take_succ_cons, List.take_zero, List.drop_succ_cons, List.drop_zero]
    iterate 4 still_step
    still_call (unknown_same p st _ HE.out.drew)
    refine wpStill_nil ?_
    change wpList _ _ _ _ _ W.drew
    generalize hwe : W.drew = W1
    have HE2 := Lib.hid (show ES p st W1 from hwe ▸ HE.out.drew)
    have HF2 := Lib.hid (show Fr p w W1 from hwe ▸ Fr.of_below (below_drew1 HB.out))
    clear hwe
    go_wp2_with (go_at_call 129; go_loud (refine (add_any p HOK.out st a p.u _ HE2.out ha (Nat.lt_succ_self _)).mono ?_; rintro e w1 ⟨rfl, he, hf⟩; have HE1 := Lib.hid he; have HF1 := Lib.hid (HF2.out.trans hf); clear he hf))
    go_ret
    exact ⟨rfl, HE1.out, HF1.out⟩
/-- flows: a move -/
theorem flows_move (p : EP) (ok : EPok p) (st : ESt) (n k : Int) (f1 f4 f5 : Int) (a b : Nat) (w : World) (h : ES p st w) (ha : a < p.rb.length) (hb : b < p.rb.length) :
    Calls Try.prog 102 #[.pointer (some ⟨p.gs, 0, none⟩), .agg #[.int .i64 n, .int .i64 k], .agg #[.int .u8 2, .int .u8 f1, .int .i64 a, .int .i64 b, .int .i64 f4, .int .i64 f5]] w fun e w' =>
      e = .returned (.bool (moveGo a b (List.range (p.u + 1)) st false).2) ∧ ES p (moveGo a b (List.range (p.u + 1)) st false).1 w' ∧ Fr p w w' := by
  have HOK := Lib.hid ok
  have hub := ok.ub
  have hcn := ok.cnl
  have hrn := ok.rn
  have HNB := Lib.hid (h.newb (g := w.heap.size + 1) (by omega))
  have HB := Lib.hid (show Below w.heap.size w ((w.alloc (.cells #[.int .i64 n, .int .i64 k] 41)).alloc (.cells #[.int .u8 2, .int .u8 f1, .int .i64 a, .int .i64 b, .int .i64 f4, .int .i64 f5] 46)) from below_alloc (below_alloc (Below.refl _ _) _) _)
  have HE := Lib.hid (h.below HB.out)
  have HI := Lib.hid (show ((w.alloc (.cells #[.int .i64 n, .int .i64 k] 41)).alloc (.cells #[.int .u8 2, .int .u8 f1, .int .i64 a, .int .i64 b, .int .i64 f4, .int .i64 f5] 46)).heap[w.heap.size + 1]? = some (.cells #[.int .u8 2, .int .u8 f1, .int .i64 a, .int .i64 b, .int .i64 f4, .int .i64 f5] 46 (0, 0)) from by
    have := blk_new (w.alloc (.cells #[.int .i64 n, .int .i64 k] 41)) (.cells #[.int .u8 2, .int .u8 f1, .int .i64 a, .int .i64 b, .int .i64 f4, .int .i64 f5] 46)
    rwa [World.size_alloc] at this)
  clear ok h
  have HROW := Lib.hid (show ∀ st' w', ES p st' w' → w'.cell? ⟨p.gs, 5, none⟩ = some (.slice (some ⟨p.gn, 0, none⟩) p.rb.length p.cn) ∧ w'.cell? ⟨p.gn, b, none⟩ = some (.slice (some ⟨p.rb.getD b 0, 0, none⟩) (p.u + 1) (p.u + 1)) ∧ ∀ q, q < p.u + 1 → w'.cell? ⟨p.rb.getD b 0, q, none⟩ = some (.bool (st'.has b q)) from fun st' w' h' => ⟨(h'.row HOK.out hb).1, (h'.row HOK.out hb).2, fun q hq => h'.has hb hq⟩)
  have HR := Lib.hid (show moveGo a b ((List.range (p.u + 1)).drop 0) st false = moveGo a b (List.range (p.u + 1)) st false from rfl)
  generalize p.rb.getD b 0 = g at HROW
  generalize moveGo a b (List.range (p.u + 1)) st false = res at *
  have hu46 := Try.underlying46
  have hu41 := Try.underlying41
  have hu126 := Try.underlying126
  go_enter Try.func102, Try.ntmps102
  go_wp2_with fail
  generalize (w.alloc (.cells #[.int .i64 n, .int .i64 k] 41)).alloc (.cells #[.int .u8 2, .int .u8 f1, .int .i64 a, .int .i64 b, .int .i64 f4, .int .i64 f5] 46) = W at *
  have HC := Lib.hid (HROW.out st W HE.out)
  have g0 := HC.out.1
  have g1 := HC.out.2.1
  have g3 := (blk_cell HI.out 3).trans rfl
  have HE2 := Lib.hid HE.out.drew
  have HF2 := Lib.hid (show Fr p w W.drew from Fr.of_below (below_drew1 HB.out))
  have HI2 := Lib.hid (blk_drew HI.out)
  clear HE HB HI HC
  go_region
  clear g0 g1 g3
  go_wp2_with fail
  go_loopw [7, 35] (fun m j wr => ∃ (q : Nat) (st' : ESt) (mb : Bool), q ≤ p.u + 1 ∧ j = .int .i64 q ∧ m = .bool mb ∧ moveGo a b ((List.range (p.u + 1)).drop q) st' mb = res ∧ ES p st' wr ∧ Fr p w wr ∧ wr.heap[w.heap.size + 1]? = some (.cells #[.int .u8 2, .int .u8 f1, .int .i64 a, .int .i64 b, .int .i64 f4, .int .i64 f5] 46 (0, 0))) (fun _ j _ => p.u + 1 - (intOf j).toNat)
  case atStart => exact ⟨0, st, false, by omega, rfl, rfl, HR.out, HE2.out, HF2.out, HI2.out⟩
  case round =>
    clear HR HE2 HF2 HI2
    obtain ⟨q, st', mb, hq, rfl, rfl, hr2, he, hfr, hi⟩ := hrel
    have HE := Lib.hid he
    have HFR := Lib.hid hfr
    have HI := Lib.hid hi
    clear he hfr hi
    by_cases hlt : q < p.u + 1
    · rw [move_drop st' mb p.u a b q hlt] at hr2
      have HR := Lib.hid hr2
      clear hr2
      have HC := Lib.hid (HROW.out st' wr HE.out)
      have g2 := HC.out.2.2 q hlt
      have g3 := (blk_cell HI.out 2).trans rfl
      cases hh : st'.has b q with
      | false =>
        rw [hh] at g2 HR
        clear hh
        have HR2 := Lib.hid (show moveGo a b ((List.range (p.u + 1)).drop (q + 1)) st' mb = res from HR.out)
        clear HR
        go_wp2_with fail
        go_roundw
        case rel => exact ⟨q + 1, st', mb, by omega, by go_num, rfl, HR2.out, HE.out, HFR.out, HI.out⟩
        case measure => simp [intOf]; omega
      | true =>
        rw [hh] at g2 HR
        clear hh
        have HR2 := Lib.hid (show moveGo a b ((List.range (p.u + 1)).drop (q + 1)) (addS st' a q).1 ((addS st' a q).2 || mb) = res from HR.out)
        clear HR
        have HAD := Lib.hid (add_any p HOK.out st' a q wr HE.out ha hlt)
        generalize addS st' a q = r2 at HR2 HAD
        obtain ⟨s2, m2⟩ := r2
        cases m2 with
        | true =>
          go_wp2_with (go_at_call 129; go_loud (refine HAD.out.mono ?_; rintro e w1 ⟨rfl, he, hf⟩; have HE1 := Lib.hid he; have HF1 := Lib.hid (HFR.out.trans hf); have HI1 := Lib.hid (hf.blk HI.out HNB.out); clear he hf))
          go_roundw
          case rel => exact ⟨q + 1, s2, true, by omega, by go_num, rfl, HR2.out, HE1.out, HF1.out, HI1.out⟩
          case measure => simp [intOf]; omega
        | false =>
          go_wp2_with (go_at_call 129; go_loud (refine HAD.out.mono ?_; rintro e w1 ⟨rfl, he, hf⟩; have HE1 := Lib.hid he; have HF1 := Lib.hid (HFR.out.trans hf); have HI1 := Lib.hid (hf.blk HI.out HNB.out); clear he hf))
          go_roundw
          case rel => exact ⟨q + 1, s2, mb, by omega, by go_num, rfl, HR2.out, HE1.out, HF1.out, HI1.out⟩
          case measure => simp [intOf]; omega
    · rw [List.drop_of_length_le (by simp; omega)] at hr2
      have HR := Lib.hid (show (st', mb) = res from hr2)
      clear hr2
      go_wp2_with fail
      go_ret
      exact ⟨by rw [← HR.out]; rfl, by rw [← HR.out]; exact HE.out, HFR.out⟩
end Go.Proofs.Ytjmeignhhheckaa.H
namespace Go.Proofs.Ytjmeignhhheckaa.H
open Go.RowKit Go.Maps Go.Proofs.YtjmeignhhheckaaW.PrintWords Go.Proofs.YtjmeignhhheckaaW.PrintLast Go.Proofs.Ytjmeignhhheckaa.Q
set_option maxRecDepth 100000
/-- flows: nothing -/
theorem flows_skip (p : EP) (st : ESt) (n k : Int) (f0 f1 f2 f3 f4 f5 : Int) (w : World) (h : ES p st w) (h7 : f0 ≠ 7) (h2 : f0 ≠ 2) (h8 : f0 ≠ 8) (h10 : f0 ≠ 10) (h6 : f0 ≠ 6) (h13 : f0 ≠ 13) :
    Calls Try.prog 102 #[.pointer (some ⟨p.gs, 0, none⟩), .agg #[.int .i64 n, .int .i64 k], .agg #[.int .u8 f0, .int .u8 f1, .int .i64 f2, .int .i64 f3, .int .i64 f4, .int .i64 f5]] w fun e w' =>
      e = .returned (.bool false) ∧ ES p st w' ∧ Fr p w w' := by
  have HB := Lib.hid (show Below w.heap.size w ((w.alloc (.cells #[.int .i64 n, .int .i64 k] 41)).alloc (.cells #[.int .u8 f0, .int .u8 f1, .int .i64 f2, .int .i64 f3, .int .i64 f4, .int .i64 f5] 46)) from below_alloc (below_alloc (Below.refl _ _) _) _)
  have HE := Lib.hid (h.below HB.out)
  have b7 : (f0 == 7) = false := beq_eq_false_iff_ne.2 h7
  have b2 : (f0 == 2) = false := beq_eq_false_iff_ne.2 h2
  have b8 : (f0 == 8) = false := beq_eq_false_iff_ne.2 h8
  have b10 : (f0 == 10) = false := beq_eq_false_iff_ne.2 h10
  have b6 : (f0 == 6) = false := beq_eq_false_iff_ne.2 h6
  have b13 : (f0 == 13) = false := beq_eq_false_iff_ne.2 h13
  clear h h7 h2 h8 h10 h6 h13
  have hu46 := Try.underlying46
  have hu41 := Try.underlying41
  go_enter Try.func102, Try.ntmps102
  go_wp2_with fail
  go_ret
  exact ⟨rfl, HE.out, Fr.of_below HB.out⟩
theorem unk_drop (st : ESt) (m : Bool) (u : Nat) (l : List Int) (q : Nat) (hq : q < l.length) : unkGo u (l.drop q) st m = unkGo u (l.drop (q + 1)) (addS st (l.getD q 0).toNat u).1 ((addS st (l.getD q 0).toNat u).2 || m) := by
  rw [drop_at l q 0 hq, unkGo]
theorem flows_begin (p : EP) (ok : EPok p) (st : ESt) (n k : Int) (f1 f2 f3 f4 f5 : Int) (w : World) (h : ES p st w) (hs : smallG p.bs) (hl : ∀ x ∈ (atS p.l0 p.u p.bs n k).1, 0 ≤ x ∧ x.toNat < p.rb.length) (hll : (atS p.l0 p.u p.bs n k).1.length ≤ 5000) :
    Calls Try.prog 102 #[.pointer (some ⟨p.gs, 0, none⟩), .agg #[.int .i64 n, .int .i64 k], .agg #[.int .u8 13, .int .u8 f1, .int .i64 f2, .int .i64 f3, .int .i64 f4, .int .i64 f5]] w fun e w' =>
      e = .returned (.bool (unkGo p.u (atS p.l0 p.u p.bs n k).1 st false).2) ∧ ES p (unkGo p.u (atS p.l0 p.u p.bs n k).1 st false).1 w' ∧ Fr p w w' := by
  have HOK := Lib.hid ok
  have HS := Lib.hid hs
  have hub := ok.ub
  have hrn := ok.rn
  have HB := Lib.hid (show Below w.heap.size w ((w.alloc (.cells #[.int .i64 n, .int .i64 k] 41)).alloc (.cells #[.int .u8 13, .int .u8 f1, .int .i64 f2, .int .i64 f3, .int .i64 f4, .int .i64 f5] 46)) from below_alloc (below_alloc (Below.refl _ _) _) _)
  have HE := Lib.hid (h.below HB.out)
  have HI := Lib.hid (show ((w.alloc (.cells #[.int .i64 n, .int .i64 k] 41)).alloc (.cells #[.int .u8 13, .int .u8 f1, .int .i64 f2, .int .i64 f3, .int .i64 f4, .int .i64 f5] 46)).heap[w.heap.size]? = some (.cells #[.int .i64 n, .int .i64 k] 41 (0, 0)) from blk_alloc (blk_new w _) _)
  have HRL := Lib.hid (show ∀ x ∈ p.rb, x < w.heap.size from fun x hx => by
    obtain ⟨j, hj, e⟩ := List.getElem_of_mem hx
    have := blk_lt (h.rows j hj)
    rw [List.getD_eq_getElem?_getD, List.getElem?_eq_getElem hj] at this
    simp only [Option.getD_some] at this
    omega)
  have HGL := Lib.hid (blk_lt h.g)
  clear ok h hs
  obtain ⟨r2, hr2⟩ : ∃ r2, r2 = (atS p.l0 p.u p.bs n k).2 := ⟨_, rfl⟩
  have HAT := Lib.hid (show live_At.f p.l0 p.u p.bs n k = some ((atS p.l0 p.u p.bs n k).1, r2) from by unfold live_At.f; rw [if_pos HS.out, hr2])
  clear hr2
  have HL := Lib.hid hl
  clear hl
  have HR := Lib.hid (show unkGo p.u ((atS p.l0 p.u p.bs n k).1.drop 0) st false = unkGo p.u (atS p.l0 p.u p.bs n k).1 st false from rfl)
  generalize unkGo p.u (atS p.l0 p.u p.bs n k).1 st false = res at *
  generalize (atS p.l0 p.u p.bs n k).1 = l at *
  have hu46 := Try.underlying46
  have hu41 := Try.underlying41
  have hu25 := Try.underlying25
  go_enter Try.func102, Try.ntmps102
  go_wp2_with fail
  have hwz : ((w.alloc (.cells #[.int .i64 n, .int .i64 k] 41)).alloc (.cells #[.int .u8 13, .int .u8 f1, .int .i64 f2, .int .i64 f3, .int .i64 f4, .int .i64 f5] 46)).heap.size = w.heap.size + 2 := by simp
  have HWZ := Lib.hid hwz
  clear hwz
  generalize (w.alloc (.cells #[.int .i64 n, .int .i64 k] 41)).alloc (.cells #[.int .u8 13, .int .u8 f1, .int .i64 f2, .int .i64 f3, .int .i64 f4, .int .i64 f5] 46) = W at *
  have g0 : W.cell? ⟨p.gs, 0, none⟩ = some (.slice p.A0 p.l0.length p.c0) := (blk_cell HE.out.s 0).trans rfl
  have g1 : W.cell? ⟨p.gs, 1, none⟩ = some (.int .i64 p.u) := (blk_cell HE.out.s 1).trans rfl
  have g2 : W.cell? ⟨p.gs, 2, none⟩ = some (.slice p.A2 p.bs.length p.c2) := (blk_cell HE.out.s 2).trans rfl
  have s0 : W.cell? ⟨w.heap.size, 0, none⟩ = some (.int .i64 n) := (blk_cell HI.out 0).trans rfl
  have s1 : W.cell? ⟨w.heap.size, 1, none⟩ = some (.int .i64 k) := (blk_cell HI.out 1).trans rfl
  go_region_held3 (fun w' => w'.cell? ⟨p.gs, 0, none⟩ = some (.slice p.A0 p.l0.length p.c0) ∧ w'.cell? ⟨p.gs, 1, none⟩ = some (.int .i64 p.u) ∧ w'.cell? ⟨p.gs, 2, none⟩ = some (.slice p.A2 p.bs.length p.c2) ∧ w'.cell? ⟨w.heap.size, 0, none⟩ = some (.int .i64 n) ∧ w'.cell? ⟨w.heap.size, 1, none⟩ = some (.int .i64 k))
    (first | go_keep | exact ⟨pw_cell_below HB5.out g0, pw_cell_below HB5.out g1, pw_cell_below HB5.out g2, pw_cell_below HB5.out s0, pw_cell_below HB5.out s1⟩ | skip)
    (first | (go_at_call 17; refine (live_At.calls p.A0 p.c0 p.l0 p.u p.A2 p.c2 p.bs n k l r2 _ (Kd.C_below HOK.out.h0 (by exact HE.out.drew.b)) HOK.out.hc0 (Kd.C_below HOK.out.h2 (by exact HE.out.drew.b)) HOK.out.hc2 HAT.out).mono ?_; rintro e w5 ⟨v5, rfl, hr5, hb5⟩; obtain ⟨A5, c5, hv5, hc5, hC5⟩ := Kd.R_reads hr5; clear hC5; subst hv5; have HB5 := Lib.hid hb5; have HR5 := Lib.hid hr5; clear hb5 hr5))
  clear g0 g1 g2 s0 s1
  have HE5 := Lib.hid (HE.out.below (below_step (below_drew1 (Below.refl _ _)) HB5.out))
  have HF5 := Lib.hid (show Fr p w w5 from (Fr.of_below HB.out).trans (Fr.of_below (below_step (below_drew1 (Below.refl _ _)) HB5.out)))
  have HCR := Lib.hid (show ∀ wr, Fr p w5 wr → Kd.C (Kd.int .i64) wr A5 l.length l from fun wr hf => by
    have hmv := RI.move (w1 := wr) HR5.out (fun k hk => by
      have h1 := Kd.R_lt HR5.out k hk
      have h2 := Kd.R_base HR5.out k hk
      have h3 := HWZ.out
      have h4 : W.heap.size ≤ k := h2
      exact hf.2 k h1 (fun hm => by have := HRL.out k hm; omega) (by have := HGL.out; omega))
    exact (Kd.R_reads' hmv).2.2)
  have HFZ := Lib.hid (Fr.refl p w5)
  clear HE HB HI HR5 HB5 HAT
  go_wp2_with fail
  go_loopw [7, 73] (fun m j wr => ∃ (q : Nat) (st' : ESt) (mb : Bool), q ≤ l.length ∧ j = .int .i64 q ∧ m = .bool mb ∧ unkGo p.u (l.drop q) st' mb = res ∧ ES p st' wr ∧ Fr p w5 wr) (fun _ j _ => l.length - (intOf j).toNat)
  case atStart => exact ⟨0, st, false, by omega, rfl, rfl, HR.out, HE5.out, HFZ.out⟩
  case round =>
    clear HR HE5 HFZ
    obtain ⟨q, st', mb, hq, rfl, rfl, hr2, he, hfr⟩ := hrel
    have HE := Lib.hid he
    have HFR := Lib.hid hfr
    clear he hfr
    by_cases hlt : q < l.length
    · rw [unk_drop st' mb p.u l q hlt] at hr2
      have HR := Lib.hid hr2
      clear hr2
      obtain ⟨ad, hA5, h0⟩ := Kd.at_int (HCR.out wr HFR.out) (q : Int) (by omega) (by omega)
      subst hA5
      rw [Int.toNat_natCast, show rd l (q : Int) = l.getD q 0 from by unfold rd; rw [Int.toNat_natCast]] at h0
      have HX := Lib.hid (HL.out (l.getD q 0) (getD_mem hlt))
      generalize l.getD q 0 = x at h0 HX HR
      obtain ⟨xn, rfl⟩ := Int.eq_ofNat_of_zero_le HX.out.1
      have hxl : xn < p.rb.length := by have := HX.out.2; omega
      rw [Int.toNat_natCast] at HR
      have HAD := Lib.hid (add_any p HOK.out st' xn p.u wr HE.out hxl (Nat.lt_succ_self _))
      generalize addS st' xn p.u = r3 at HR HAD
      obtain ⟨s2, m2⟩ := r3
      cases m2 with
      | true =>
        go_wp2_with (first | (go_at_call 105; go_loud (refine (unknown_any p st' _ HE.out).mono ?_; rintro e w6 ⟨rfl, rfl⟩)) | (go_at_call 129; go_loud (refine HAD.out.mono ?_; rintro e w1 ⟨rfl, he, hf⟩; have HE1 := Lib.hid he; have HF1 := Lib.hid (HFR.out.trans hf); clear he hf)))
        go_roundw
        case rel => exact ⟨q + 1, s2, true, by omega, by go_num, rfl, HR.out, HE1.out, HF1.out⟩
        case measure => simp [intOf]; omega
      | false =>
        go_wp2_with (first | (go_at_call 105; go_loud (refine (unknown_any p st' _ HE.out).mono ?_; rintro e w6 ⟨rfl, rfl⟩)) | (go_at_call 129; go_loud (refine HAD.out.mono ?_; rintro e w1 ⟨rfl, he, hf⟩; have HE1 := Lib.hid he; have HF1 := Lib.hid (HFR.out.trans hf); clear he hf)))
        go_roundw
        case rel => exact ⟨q + 1, s2, mb, by omega, by go_num, rfl, HR.out, HE1.out, HF1.out⟩
        case measure => simp [intOf]; omega
    · rw [List.drop_of_length_le (by omega)] at hr2
      have HR := Lib.hid (show (st', mb) = res from hr2)
      clear hr2
      go_wp2_with fail
      go_ret
      exact ⟨by rw [← HR.out]; rfl, by rw [← HR.out]; exact HE.out, HF5.out.trans HFR.out⟩
end Go.Proofs.Ytjmeignhhheckaa.H

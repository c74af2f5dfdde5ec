/- Part 4 of the proof: contracts of the functions that are reached, and the plain law. -/
import Derived.Test.YtjmeignhhheckaaXc
import Derived.StillTail
set_option linter.unusedVariables false
set_option linter.unusedSimpArgs false
namespace Go.Proofs.Ytjmeignhhheckaa.H
open Go.RowKit Go.Maps Go.Proofs.YtjmeignhhheckaaW.PrintWords Go.Proofs.YtjmeignhhheckaaW.PrintLast Go.Proofs.Ytjmeignhhheckaa.Q
set_option maxRecDepth 100000
structure TFr (w : World) (G : Array Value) (ins : List (List Nat)) (vs : List Value) (rows : List (List Int)) (tv : Value) (todo : List Int) (wr : World) : Prop where
  b : Below w.heap.size w wr
  c0 : wr.heap[w.heap.size]? = some (.cells G 25 (0, 0))
  si : SR wr (w.heap.size + 1) ins
  fr : FR wr w.heap.size (w.heap.size + 2) vs rows
  td : RI wr w.heap.size tv todo
  ap : ∀ i, i < rows.length → ∀ k, (vs.getD i undef).ownBlock = some k → tv.ownBlock ≠ some k
theorem SR.blk {w : World} {g : Nat} {xs : List (List Nat)} (h : SR w g xs) : ∃ C, w.heap[g]? = some (.cells C 98 (0, 0)) := by
  obtain ⟨C, hC, _⟩ := h.cells
  exact ⟨C, hC⟩
theorem TFr.below {w : World} {G : Array Value} {ins : List (List Nat)} {vs : List Value} {rows : List (List Int)} {tv : Value} {todo : List Int} {wr wr' : World} (h : TFr w G ins vs rows tv todo wr) (hb : Below wr.heap.size wr wr') : TFr w G ins vs rows tv todo wr' := by
  obtain ⟨C, hC⟩ := h.si.blk
  exact ⟨below_step h.b hb, blk_below h.c0 hb, h.si.below hb (blk_lt hC), h.fr.below hb, h.td.below hb, h.ap⟩
theorem TFr.drew {w : World} {G : Array Value} {ins : List (List Nat)} {vs : List Value} {rows : List (List Int)} {tv : Value} {todo : List Int} {wr : World} (h : TFr w G ins vs rows tv todo wr) : TFr w G ins vs rows tv todo wr.drew := h.below (pw_below_drewN (Below.refl _ wr) 1)
theorem TFr.alloc {w : World} {G : Array Value} {ins : List (List Nat)} {vs : List Value} {rows : List (List Int)} {tv : Value} {todo : List Int} {wr : World} (h : TFr w G ins vs rows tv todo wr) (o : Obj) : TFr w G ins vs rows tv todo (wr.alloc o) := h.below ((Below.refl _ wr).alloc (Nat.le_refl _) o)
/-- a block of another type is no row's -/
theorem RI.ne {w : World} {base g t : Nat} {v : Value} {xs : List Int} {C : Array Value} (h : RI w base v xs) (hc : w.heap[g]? = some (.cells C t (0, 0))) (ht : t ≠ 3) : ∀ k, v.ownBlock = some k → k ≠ g := by
  intro k hk e
  subst e
  obtain ⟨cs, hcs⟩ := h.typed k hk
  rw [hc] at hcs
  injection hcs with e2
  injection e2 with _ e3 _
  exact ht e3
theorem RI.base {w : World} {base : Nat} {v : Value} {xs : List Int} (h : RI w base v xs) : ∀ k, v.ownBlock = some k → base ≤ k := Kd.R_base h
/-- todo has been appended to -/
theorem TFr.push {w : World} {G : Array Value} {ins : List (List Nat)} {vs : List Value} {rows : List (List Int)} {tv v1 : Value} {todo ys : List Int} {wr wr' : World} (h : TFr w G ins vs rows tv todo wr)
    (hR : RI wr' w.heap.size v1 ys) (hg : wr.grownBy wr' tv.ownBlock) (hat : v1.ownBlock = tv.ownBlock ∨ ∃ b, v1.ownBlock = some b ∧ wr.heap.size ≤ b) : TFr w G ins vs rows v1 ys wr' := by
  obtain ⟨C, hC⟩ := h.si.blk
  refine ⟨h.b.grown hg h.b.size (fun k hk => h.td.base k hk), blk_grown h.c0 hg (fun e => h.td.ne h.c0 (by decide) _ e.symm rfl), h.si.grown hg (fun e => h.td.ne hC (by decide) _ e.symm rfl),
    h.fr.apart hg (fun e => h.td.ne h.fr.blk (by decide) _ e rfl) (fun i hi k hk => h.ap i hi k hk), hR, fun i hi k hk => ?_⟩
  rcases hat with hat | ⟨b, hat, hb⟩
  · rw [hat]; exact h.ap i hi k hk
  · rw [hat]
    intro e
    have := (h.fr.row i hi).lt k hk
    have := Option.some.inj e
    omega
/-- a row has been appended to, and stored -/
theorem TFr.row {w : World} {G : Array Value} {ins : List (List Nat)} {vs : List Value} {rows : List (List Int)} {tv v1 : Value} {todo ys : List Int} {wr wr' : World} {i : Nat} (h : TFr w G ins vs rows tv todo wr) (hi : i < rows.length)
    (hR : RI wr' w.heap.size v1 ys) (hg : wr.grownBy wr' (vs.getD i undef).ownBlock) (hat : v1.ownBlock = (vs.getD i undef).ownBlock ∨ ∃ b, v1.ownBlock = some b ∧ wr.heap.size ≤ b) :
    TFr w G ins (vs.set i v1) (rows.set i ys) tv todo (wr'.setCell ⟨w.heap.size + 2, i, none⟩ v1) := by
  obtain ⟨C, hC⟩ := h.si.blk
  have hr := h.fr.row i hi
  have hf := h.fr.append hi hR hg hat
  have hs : wr'.grownBy (wr'.setCell ⟨w.heap.size + 2, i, none⟩ v1) (some (w.heap.size + 2)) := grown_put1 i v1
  have hblk2 : wr'.heap[w.heap.size + 2]? = some (.cells vs.toArray 37 (0, 0)) := blk_grown h.fr.blk hg (fun e => hr.ne h.fr.blk (by decide) _ e.symm rfl)
  refine ⟨(h.b.grown hg h.b.size (fun k hk => hr.base k hk)).grown hs (Nat.le_trans h.b.size hg.size) (fun k hk => by cases hk; omega),
    blk_grown (blk_grown h.c0 hg (fun e => hr.ne h.c0 (by decide) _ e.symm rfl)) hs (fun e => by have := Option.some.inj e; omega),
    (h.si.grown hg (fun e => hr.ne hC (by decide) _ e.symm rfl)).grown hs (fun e => by have := Option.some.inj e; omega), hf,
    (h.td.apart hg (fun k hk e => h.ap i hi k e hk)).other hblk2 (by decide) hs, fun j hj k hk => ?_⟩
  rw [List.length_set] at hj
  rw [getD_set_val (by rw [h.fr.len]; exact hi)] at hk
  split at hk
  · rcases hat with hat | ⟨b, hat, hb⟩
    · rw [hat] at hk; exact h.ap i hi k hk
    · rw [hat] at hk
      intro e
      have := h.td.lt k e
      have := Option.some.inj hk
      omega
  · exact h.ap j hj k hk
/-- a set has been stored -/
theorem TFr.put {w : World} {G : Array Value} {ins : List (List Nat)} {vs : List Value} {rows : List (List Int)} {tv : Value} {todo : List Int} {wr : World} (h : TFr w G ins vs rows tv todo wr) (i : Nat) (hi : i < ins.length) (x : List Nat) (hx : okW x) :
    TFr w G (ins.set i x) vs rows tv todo (wr.setCells (w.heap.size + 1) (16 * i) (x.map wv)) := by
  obtain ⟨C, hC⟩ := h.si.blk
  have hg : wr.grownBy (wr.setCells (w.heap.size + 1) (16 * i) (x.map wv)) (some (w.heap.size + 1)) := grown_puts _ _ _ _
  exact ⟨h.b.grown hg h.b.size (fun k hk => by cases hk; omega), blk_grown h.c0 hg (fun e => by have := Option.some.inj e; omega), h.si.set i hi x hx, h.fr.other hC (by decide) (by omega) hg, h.td.other hC (by decide) hg, h.ap⟩
theorem FR.cellOf {w : World} {base g : Nat} {vs : List Value} {rows : List (List Int)} (h : FR w base g vs rows) (i : Nat) (hi : i < rows.length) : w.cell? ⟨g, i, none⟩ = some (vs.getD i undef) ∧ w.frozen? ⟨g, i, none⟩ = false := by
  refine ⟨?_, blk_frozen h.blk i⟩
  rw [blk_cell h.blk]
  have : i < vs.length := by rw [h.len]; exact hi
  simp [this]
theorem FR.cellAfter {w w1 : World} {base g : Nat} {vs : List Value} {rows : List (List Int)} (h : FR w base g vs rows) (i : Nat) (hi : i < rows.length) (hg : w.grownBy w1 (vs.getD i undef).ownBlock) : w1.cell? ⟨g, i, none⟩ = some (vs.getD i undef) ∧ w1.frozen? ⟨g, i, none⟩ = false := by
  have hb := blk_grown h.blk hg (fun e => (h.row i hi).ne h.blk (by decide) _ e.symm rfl)
  refine ⟨?_, blk_frozen hb i⟩
  rw [blk_cell hb]
  have : i < vs.length := by rw [h.len]; exact hi
  simp [this]
theorem TFr.rowN {w : World} {G : Array Value} {ins : List (List Nat)} {vs : List Value} {rows : List (List Int)} {tv v1 nv : Value} {todo nl : List Int} {wr wr' : World} {i B : Nat} (h : TFr w G ins vs rows tv todo wr) (hi : i < rows.length)
    (hN : RI wr B nv nl) (hap : ∀ j, j < rows.length → ∀ k, (vs.getD j undef).ownBlock = some k → nv.ownBlock ≠ some k)
    (hg : wr.grownBy wr' (vs.getD i undef).ownBlock) (hat : v1.ownBlock = (vs.getD i undef).ownBlock ∨ ∃ b, v1.ownBlock = some b ∧ wr.heap.size ≤ b) :
    RI (wr'.setCell ⟨w.heap.size + 2, i, none⟩ v1) B nv nl ∧ ∀ j, j < rows.length → ∀ k, ((vs.set i v1).getD j undef).ownBlock = some k → nv.ownBlock ≠ some k := by
  have hblk2 : wr'.heap[w.heap.size + 2]? = some (.cells vs.toArray 37 (0, 0)) := blk_grown h.fr.blk hg (fun e => (h.fr.row i hi).ne h.fr.blk (by decide) _ e.symm rfl)
  refine ⟨(hN.apart hg (fun k hk e => hap i hi k e hk)).other hblk2 (by decide) (grown_put1 i v1), fun j hj k hk => ?_⟩
  rw [getD_set_val (by rw [h.fr.len]; exact hi)] at hk
  split at hk
  · rcases hat with hat | ⟨b, hat, hb⟩
    · rw [hat] at hk; exact hap i hi k hk
    · rw [hat] at hk
      intro e
      have := hN.lt k e
      have := Option.some.inj hk
      omega
  · exact hap j hj k hk
theorem wpStill_load {P : Program} {ops : Array Oper} {w : World} {Q : Act → Prop} {a : Act} {o : Oper} {rest : List Oper} (hgd : o.guard = none) (ty : TypeId) (x : Operand) (ho : o.op = .load ty x) (p v : Value) (hx : a.eval x = p)
    (hrun : (Instr.loadAt ty p).run P w = .ok v w) (h : wpStill P ops w Q rest (a.put o.dst v)) : wpStill P ops w Q (o :: rest) a := by
  refine wpStill_step (fun K hK => ?_)
  simp only [Region.wanted, hgd, if_true]
  unfold Oper.still execOp
  simp only [ho, hx, Sem.run_bind, Sem.run_pure, hrun, Result.andThen_ok]
  exact ⟨rfl, hK _ h⟩
theorem frmGo_snoc : ∀ (xs : List S36) (x : S36) (n : Nat) (f : List (List Int)), frmGo (xs ++ [x]) n f = (nexts x).foldl (frmStep (n + xs.length)) (frmGo xs n f)
  | [], x, n, f => rfl
  | y :: r, x, n, f => by
    rw [List.cons_append, frmGo, frmGo_snoc r x (n + 1), frmGo, List.length_cons, show n + 1 + r.length = n + (r.length + 1) from by omega]
set_option maxHeartbeats 4000000 in
theorem sets_any (A0 A2 : Option Addr) (c0 c2 : Nat) (a1 : Int) (l0 : List Bool) (bs : List S36) (w : World) (hC : Kd.C k36 w A2 bs.length bs) (hc : bs.length ≤ c2) (hn : bs.length ≤ 5000) (hb : ∀ x ∈ bs, blkOk bs.length x) :
    Calls Try.prog 57 #[.agg #[.slice A0 l0.length c0, .int .i64 a1, .slice A2 bs.length c2]] w fun e w' => e = .returned (.slice (some ⟨w.heap.size + 1, 0, none⟩) bs.length bs.length) ∧ SR w' (w.heap.size + 1) (setsS bs) ∧ Below w.heap.size w w' := by
  have HC := Lib.hid hC
  have HB := Lib.hid hb
  clear hC hb
  have hm1 := make94 bs.length (by omega)
  have hm2 := make28 bs.length (by omega)
  have hm3 := make37 bs.length (by omega)
  have hu25 := Try.underlying25
  have hu36 := Try.underlying36
  have HF := Lib.hid (show TFr w #[.slice A0 l0.length c0, .int .i64 a1, .slice A2 bs.length c2] (List.replicate bs.length zeroW) (List.replicate bs.length (.slice none 0 0)) (List.replicate bs.length []) (.slice (some ⟨w.heap.size + 3, 0, none⟩) 0 bs.length) []
      ((((w.alloc (.cells #[.slice A0 l0.length c0, .int .i64 a1, .slice A2 bs.length c2] 25)).alloc (.cells (Array.replicate (bs.length * 16) (.int .u64 0)) 98)).alloc (.cells (Array.replicate bs.length (.slice none 0 0)) 37)).alloc (.cells (Array.replicate bs.length (.int .i64 0)) 3)) from by
    have e1 := blk_alloc (blk_alloc (blk_alloc (blk_new w (.cells #[.slice A0 l0.length c0, .int .i64 a1, .slice A2 bs.length c2] 25)) (.cells (Array.replicate (bs.length * 16) (.int .u64 0)) 98)) (.cells (Array.replicate bs.length (.slice none 0 0)) 37)) (.cells (Array.replicate bs.length (.int .i64 0)) 3)
    have e2 := blk_alloc (blk_alloc (blk_new (w.alloc (.cells #[.slice A0 l0.length c0, .int .i64 a1, .slice A2 bs.length c2] 25)) (.cells (Array.replicate (bs.length * 16) (.int .u64 0)) 98)) (.cells (Array.replicate bs.length (.slice none 0 0)) 37)) (.cells (Array.replicate bs.length (.int .i64 0)) 3)
    have e3 := blk_alloc (blk_new ((w.alloc (.cells #[.slice A0 l0.length c0, .int .i64 a1, .slice A2 bs.length c2] 25)).alloc (.cells (Array.replicate (bs.length * 16) (.int .u64 0)) 98)) (.cells (Array.replicate bs.length (.slice none 0 0)) 37)) (.cells (Array.replicate bs.length (.int .i64 0)) 3)
    have e4 := blk_new (((w.alloc (.cells #[.slice A0 l0.length c0, .int .i64 a1, .slice A2 bs.length c2] 25)).alloc (.cells (Array.replicate (bs.length * 16) (.int .u64 0)) 98)).alloc (.cells (Array.replicate bs.length (.slice none 0 0)) 37)) (.cells (Array.replicate bs.length (.int .i64 0)) 3)
    simp only [World.size_alloc] at e2 e3 e4
    refine ⟨below_alloc (below_alloc (below_alloc (below_alloc (Below.refl _ _) _) _) _) _, e1, SR.start e2, FR.start (by rw [show (List.replicate bs.length (Value.slice none 0 0)).toArray = Array.replicate bs.length (Value.slice none 0 0) from by simp]; exact e3), RI.start (by omega) (by omega) e4, fun i hi k hk => ?_⟩
    rw [List.length_replicate] at hi
    simp [List.getElem?_replicate, hi, Value.ownBlock] at hk)
  go_enter Try.func57, Try.ntmps57
  go_wp2_with fail
  clear hm1 hm2 hm3
  go_loopw [27, 5] (fun j tv wr => ∃ (m : Nat) (vs : List Value), m ≤ bs.length ∧ j = .int .i64 m ∧ TFr w #[.slice A0 l0.length c0, .int .i64 a1, .slice A2 bs.length c2] (List.replicate bs.length zeroW) vs (frmGo (bs.take m) 0 (List.replicate bs.length [])) tv ((List.range m).map fun i : Nat => (i : Int)) wr) (fun j _ _ => bs.length - (intOf j).toNat)
  case atStart => exact ⟨0, _, Nat.zero_le _, rfl, HF.out⟩
  case round =>
    clear HF
    obtain ⟨m, vs, hm, rfl, hF⟩ := hrel
    have HF := Lib.hid hF
    clear hF
    by_cases hlt : m < bs.length
    · obtain ⟨ad2, A3, c3, hA, b0, b1, b2, b3, b4, hc3, hC3⟩ := at_T36 (Kd.C_below HC.out HF.out.b) (m : Int) (by omega) (by omega)
      subst hA
      simp only [Int.toNat_natCast] at b0 b1 b2 b3 b4
      have HBK := Lib.hid (show blkOk bs.length (rd_T36 bs (m : Nat)) from HB.out (blkAt bs (m : Nat)) (blkAt_mem bs m hlt))
      have HTK := Lib.hid (show bs.take (m + 1) = bs.take m ++ [rd_T36 bs (m : Nat)] from by
        rw [List.take_succ_eq_append_getElem hlt]; simp [rd_T36, hlt])
      have HC3 := Lib.hid hC3
      have HLC := Lib.hid hc3
      clear hC3 hc3
      generalize rd_T36 bs (m : Int) = bk at *
      have HF0 := Lib.hid (HF.out.alloc (.cells #[.slice A3 bk.f0.length c3, .int .u8 bk.f1, .int .i64 bk.f2, .int .i64 bk.f3, .int .i64 bk.f4] 36))
      go_wp2_with (go_at_call 64; go_loud (refine (next_calls A3 c3 bk _ (Kd.C_below HC3.out ((Below.refl _ wr).alloc (Nat.le_refl _) _)) HLC.out).mono ?_; rintro e w1 ⟨v, rfl, hR1, hb1⟩; have HF1 := Lib.hid (HF0.out.below (by exact hb1)); have HN0 := Lib.hid hR1; have hsz := hb1.size; clear hb1 hR1 b0 b1 b2 b3 b4; obtain ⟨A5, c5, hv5, hc5, hC5⟩ := Kd.R_reads HN0.out; clear hC5; subst hv5))
      have hn2 := nexts_len bk
      have hap : ∀ i, i < (frmGo (bs.take m) 0 (List.replicate bs.length [])).length → ∀ k, (vs.getD i undef).ownBlock = some k → (Value.slice A5 (nexts bk).length c5).ownBlock ≠ some k := by
        intro i hi k hk e
        have h1 := (HF0.out.fr.row i hi).lt k hk
        have h2 := Kd.R_base HN0.out k e
        omega
      have HAP := Lib.hid hap
      have hwsz := HF.out.b.size
      clear hap HF0 HF
      generalize hB5 : (wr.alloc (.cells #[.slice A3 bk.f0.length c3, .int .u8 bk.f1, .int .i64 bk.f2, .int .i64 bk.f3, .int .i64 bk.f4] 36)).heap.size = B5 at *
      have hB5w : w.heap.size ≤ B5 := by rw [← hB5, World.size_alloc]; omega
      have hrl : (frmGo (bs.take m) 0 (List.replicate bs.length [])).length = bs.length := by rw [frmGo_len, List.length_replicate]
      have HGS := Lib.hid (show frmGo (bs.take (m + 1)) 0 (List.replicate bs.length []) = (nexts bk).foldl (frmStep m) (frmGo (bs.take m) 0 (List.replicate bs.length [])) from by
        rw [HTK.out, frmGo_snoc, List.length_take, Nat.min_eq_left hm, Nat.zero_add])
      have HRT := Lib.hid (show ∀ t : Nat, ((frmGo (bs.take m) 0 (List.replicate bs.length [])).getD t []).length ≤ 5000 from fun t => by
        rw [frmGo_get t (bs.take m) 0 _ (fun x hx u hu => by rw [List.length_replicate]; exact (HB.out x (List.mem_of_mem_take hx)).nx u hu)]
        have h1 := fromRow_len t (bs.take m) 0
        rw [List.length_take] at h1
        have h2 : ((List.replicate bs.length ([] : List Int)).getD t []).length = 0 := by
          rw [List.getD_eq_getElem?_getD, List.getElem?_replicate]
          split <;> rfl
        rw [List.length_append, h2]
        omega)
      generalize frmGo (bs.take m) 0 (List.replicate bs.length []) = rows at *
      generalize hnv : nexts bk = nl at *
      go_loopw [35] (fun j wr => ∃ (q : Nat) (vs2 : List Value), q ≤ nl.length ∧ j = .int .i64 q ∧ TFr w #[.slice A0 l0.length c0, .int .i64 a1, .slice (some ad2) bs.length c2] (List.replicate bs.length zeroW) vs2 ((nl.take q).foldl (frmStep m) rows) u5 ((List.range m).map fun i : Nat => (i : Int)) wr ∧ RI wr B5 (.slice A5 nl.length c5) nl ∧ (∀ i, i < bs.length → ∀ k, (vs2.getD i undef).ownBlock = some k → (Value.slice A5 nl.length c5).ownBlock ≠ some k)) (fun j _ => nl.length - (intOf j).toNat)
      case atStart => exact ⟨0, _, Nat.zero_le _, rfl, HF1.out, HN0.out, by rw [← hrl]; exact HAP.out⟩
      case round =>
        clear HF1 HN0 HAP
        obtain ⟨q, vs2, hq, rfl, hF, hN, hAP⟩ := hrel
        have HF := Lib.hid hF
        have HN := Lib.hid hN
        have HAP := Lib.hid hAP
        clear hF hN hAP
        by_cases hlt2 : q < nl.length
        · obtain ⟨A6, c6, hv6, hc6, hC6⟩ := Kd.R_reads HN.out
          have hA6 : A6 = A5 := by injection hv6 with e; exact e.symm
          subst hA6
          obtain ⟨ad6, hA6, f0⟩ := Kd.at_int hC6 (q : Int) (by omega) (by omega)
          subst hA6
          simp only [Int.toNat_natCast] at f0
          clear hC6 hv6 hc6
          have HT := Lib.hid (show 0 ≤ rd nl q ∧ rd nl q < bs.length from HBK.out.nx _ (by rw [hnv]; unfold rd; exact getD_mem (by omega)))
          have HT1 := Lib.hid (take_snoc_int nl q hlt2)
          have HRD := Lib.hid (show nl.getD q 0 = rd nl q from rfl)
          generalize rd nl q = t at *
          obtain ⟨tn, rfl⟩ := Int.eq_ofNat_of_zero_le HT.out.1
          have htl : tn < bs.length := by have := HT.out.2; omega
          have HRL := Lib.hid (show ((nl.take q).foldl (frmStep m) rows).length = bs.length from by rw [frmFold_len]; exact hrl)
          have HFS := Lib.hid (show (nl.take (q + 1)).foldl (frmStep m) rows = ((nl.take q).foldl (frmStep m) rows).set tn (((nl.take q).foldl (frmStep m) rows).getD tn [] ++ [(m : Int)]) from by
            rw [HT1.out, List.foldl_append, HRD.out]; rfl)
          have HRL2 := Lib.hid (show (((nl.take q).foldl (frmStep m) rows).getD tn []).length ≤ 6000 from by
            rw [frmFold_get m tn (nl.take q) rows (fun u hu => by rw [hrl]; exact HBK.out.nx u (by rw [hnv]; exact List.mem_of_mem_take hu))]
            have h1 := HRT.out tn
            have h2 : (rowOf (nl.take q) m tn).length ≤ (nl.take q).length := by
              unfold rowOf
              rw [List.length_map]
              exact List.length_filter_le _ _
            rw [List.length_take] at h2
            rw [List.length_append]
            omega)
          generalize (nl.take q).foldl (frmStep m) rows = rw_ at *
          have hti : tn < rw_.length := by rw [HRL.out]; exact htl
          have hce := (HF.out.fr.cellOf tn hti).1
          have HE := Lib.hid (HF.out.fr.row tn hti)
          have HFA := HF
          have HNA := HN
          have HCA := Lib.hid (fun (w1 : World) => HFA.out.fr.cellAfter (w1 := w1) tn hti)
          have HRA := Lib.hid (fun (w1 : World) (v1 : Value) (ys : List Int) => HFA.out.row (wr' := w1) (v1 := v1) (ys := ys) hti)
          have HRN := Lib.hid (fun (w1 : World) (v1 : Value) => HFA.out.rowN (wr' := w1) (v1 := v1) hti HNA.out (by rw [HRL.out]; exact HAP.out))
          have hu28 := Try.underlying28
          have hu37 := Try.underlying37
          generalize vs2.getD tn undef = ev at *
          go_upto_region 10 with fail
          refine wp_region_lit ?_
          iterate 8 (refine wpList_plain rfl (fun K hK => ?_); go_simp; refine hK _ _ ?_; clear hK K)
          refine Kd.R_append (Kd.int .i64) (w0 := w) w.heap.size rfl (.tmp 44) (.tmp 46) 37 3 (.int .i64 0) 8 rfl Try.underlying37 infoS3 rfl (by decide) (by decide) ev (rw_.getD tn []) (m : Int) [.int .i64 m] (fun _ => True) (fun _ => False) rfl rfl ?aP (fun _ hk => hk.elim) ?aF ?aO ?aB ?aS ?aL ?_
          case aP => exact rfl
          case aB => exact HFA.out.b
          case aF => exact (fun _ _ => trivial)
          case aO => exact HE.out
          case aS => exact HFA.out.b.size
          case aL => have := HRL2.out; omega
          intro v1 w2 hR1 hb1 hg1 hat1
          obtain ⟨A8, c8, hv8, hc8, hC8⟩ := Kd.R_reads hR1
          clear hC8 hc8
          subst hv8
          obtain ⟨hc1, hf1⟩ := HCA.out w2 hg1
          have HF2 := Lib.hid (HRA.out w2 _ _ hR1 hg1 hat1)
          have HN2 := Lib.hid (HRN.out w2 _ hg1 hat1)
          clear hR1 hb1 hg1 hat1 hce f0
          generalize (rw_.getD tn [] ++ [(m : Int)]).length = L8 at *
          go_wp2
          go_roundw
          case rel =>
            refine ⟨q + 1, vs2.set tn (.slice A8 L8 c8), by omega, by go_num, ?_, HN2.out.1, ?_⟩
            · rw [HFS.out]
              exact HF2.out
            · have := HN2.out.2
              rwa [HRL.out] at this
          case measure => simp [intOf]; omega
        · have hqe : q = nl.length := by omega
          subst hqe
          rw [List.take_length] at HF
          clear HN HAP
          go_upto_region 12 with fail
          refine wp_region_lit ?_
          iterate 3 (refine wpList_plain rfl (fun K hK => ?_); go_simp; refine hK _ _ ?_; clear hK K)
          refine Kd.R_append (Kd.int .i64) (w0 := w) w.heap.size rfl (.tmp 50) (.tmp 52) 37 3 (.int .i64 0) 8 rfl Try.underlying37 infoS3 rfl (by decide) (by decide) u5 ((List.range m).map fun i : Nat => (i : Int)) (m : Int) [.int .i64 m] (fun _ => True) (fun _ => False) rfl rfl ?aP (fun _ hk => hk.elim) ?aF ?aO ?aB ?aS ?aL ?_
          case aP => exact rfl
          case aB => exact HF.out.b
          case aF => exact (fun _ _ => trivial)
          case aO => exact HF.out.td
          case aS => exact HF.out.b.size
          case aL => rw [List.length_map, List.length_range]; omega
          intro v1 w2 hR1 hb1 hg1 hat1
          have HF2 := Lib.hid (HF.out.push hR1 hg1 hat1)
          clear hR1 hb1 hg1 hat1
          have HRS := Lib.hid (show ((List.range (m + 1)).map fun i : Nat => (i : Int)) = ((List.range m).map fun i : Nat => (i : Int)) ++ [(m : Int)] from by rw [List.range_succ, List.map_append]; rfl)
          go_wp2
          go_roundw
          case rel =>
            refine ⟨m + 1, vs2, by omega, by go_num, ?_⟩
            rw [HGS.out, HRS.out]
            exact HF2.out
          case measure => simp [intOf]; omega
    · have : m = bs.length := by omega
      subst this
      rw [List.take_length] at HF
      have hsp := setsS_spec HB.out
      have HSP := Lib.hid hsp
      clear hsp
      have hst0 := setsInv_start HB.out
      have HIV := Lib.hid hst0
      clear hst0
      have hfl : (1024 * bs.length - bitsOf (List.replicate bs.length zeroW)) * (bs.length + 1) + ((List.range bs.length).map fun i : Nat => (i : Int)).reverse.length + 1 ≤ fuelS bs.length := by
        rw [List.length_reverse, List.length_map, List.length_range]
        have : (1024 * bs.length - bitsOf (List.replicate bs.length zeroW)) * (bs.length + 1) ≤ 1024 * bs.length * (bs.length + 1) := Nat.mul_le_mul_right _ (by omega)
        unfold fuelS
        omega
      have HFL := Lib.hid hfl
      clear hfl
      have hfu : fuelS bs.length ≤ 30000000000 := by
        have : 1024 * bs.length * (bs.length + 1) ≤ 1024 * 5000 * 5001 := Nat.mul_le_mul (Nat.mul_le_mul_left _ hn) (by omega)
        unfold fuelS
        omega
      generalize hst : ((List.range bs.length).map fun i : Nat => (i : Int)).reverse = st0 at *
      have HF2 := Lib.hid (show TFr w #[.slice A0 l0.length c0, .int .i64 a1, .slice A2 bs.length c2] (List.replicate bs.length zeroW) vs (frmOf bs) u5 st0.reverse wr from by
        rw [← hst, List.reverse_reverse]; exact HF.out)
      clear HF hst
      generalize List.replicate bs.length zeroW = ins0 at *
      obtain ⟨kf, hkf⟩ : ∃ kf, fuelS bs.length = kf + 1 := ⟨fuelS bs.length - 1, by unfold fuelS; omega⟩
      rw [hkf] at HSP HFL hfu
      go_wp2_with fail
      clear hu36
      go_loopg [5] kf (fun kq tv wr => ∃ (ins : List (List Nat)) (st : List Int), TFr w #[.slice A0 l0.length c0, .int .i64 a1, .slice A2 bs.length c2] ins vs (frmOf bs) tv st.reverse wr ∧ setsGo bs (frmOf bs) (kq + 1) ins st = some (setsS bs) ∧ SetsInv bs (frmOf bs) ins st ∧ (1024 * bs.length - bitsOf ins) * (bs.length + 1) + st.length + 1 ≤ kq + 1 ∧ kq ≤ kf)
      case atStart => exact ⟨_, st0, HF2.out, HSP.out.1, HIV.out, HFL.out, Nat.le_refl _⟩
      case round =>
        clear HF2 HIV HFL
        obtain ⟨ins, st, hF, hgo, hiv, hbd, hkk⟩ := hrel
        have HF := Lib.hid hF
        have HGO := Lib.hid hgo
        have HIV := Lib.hid hiv
        have HBD := Lib.hid hbd
        clear hF hgo hiv
        cases st with
        | nil =>
          have hgo := HGO.out
          simp only [setsGo, Option.some.injEq] at hgo
          have HE := Lib.hid hgo
          clear hgo
          obtain ⟨A, c, hv, hc5, hC5⟩ := Kd.R_reads HF.out.td
          simp only [List.reverse_nil, List.length_nil] at hv
          subst hv
          clear hC5
          go_wp2
          go_ret
          refine ⟨rfl, ?_, HF.out.b⟩
          rw [← HE.out]
          exact HF.out.si
        | cons b st =>
          have htd := HF.out.td
          rw [List.reverse_cons] at htd
          obtain ⟨A, c, hv, hc5, hC5⟩ := Kd.R_reads htd
          have hll : (st.reverse ++ [b]).length = st.length + 1 := by simp
          rw [hll] at hv hc5 hC5
          subst hv
          have hsl : st.length ≤ 30000000000 := by
            simp only [List.length_cons] at hbd
            omega
          obtain ⟨ad, hA, f0⟩ := Kd.at_int hC5 (st.length : Int) (by omega) (by omega)
          subst hA
          simp only [Int.toNat_natCast] at f0
          have hrd : rd (st.reverse ++ [b]) (st.length : Int) = b := by simp [rd]
          rw [hrd] at f0
          have HTD := Lib.hid htd
          clear hC5 htd hrd hbd
          have hbr := HIV.out.rng b (by simp)
          obtain ⟨n, rfl⟩ := Int.eq_ofNat_of_zero_le hbr.1
          have hnl : n < bs.length := by omega
          go_upto_region 17 with fail
          clear f0
          have hg2 : wr.cell? ⟨w.heap.size, 2, none⟩ = some (.slice A2 bs.length c2) := (blk_cell HF.out.c0 2).trans rfl
          obtain ⟨ad2, A3, c3, hA, b0, b1, b2, b3, b4, hc3, hC3⟩ := at_T36 (Kd.C_below HC.out HF.out.b) (n : Int) (by omega) (by omega)
          subst hA
          simp only [Int.toNat_natCast] at b0 b1 b2 b3 b4
          have HBK := Lib.hid (show blkOk bs.length (rd_T36 bs (n : Nat)) from HB.out (blkAt bs (n : Nat)) (blkAt_mem bs n hnl))
          obtain ⟨CS, hCS⟩ := HF.out.si.blk
          have hah := ahead_calls A3 c3 (rd_T36 bs (n : Nat)) 0 (w.heap.size + 1) ins.length ins wr hC3 hc3 HF.out.si (blk_lt hCS) (Nat.le_refl _) (by rw [HIV.out.ok.len]; exact HBK.out.nx) HBK.out.br HBK.out.rg (Nat.zero_le _)
          rw [HIV.out.ok.len, Int.natCast_zero] at hah
          have HAH := Lib.hid hah
          have HAE := Lib.hid (show aheadW (blkAt bs (n : Nat)) 0 ins = aheadW (rd_T36 bs (n : Nat)) 0 ins from rfl)
          clear hah hC3 hc3 hCS
          generalize aheadW (rd_T36 bs (n : Nat)) 0 ins = na at *
          generalize rd_T36 bs (n : Nat) = bk at *
          refine wp_region_lit ?_
          iterate 6 (refine wpList_plain rfl (fun K hK => ?_); go_simp; refine hK _ _ ?_; clear hK K)
          refine wpList_plain rfl (fun K hK => ?_)
          go_simp
          refine HAH.out.mono ?_
          rintro e w1 ⟨rfl, hok, hb1⟩
          have HOK := Lib.hid hok
          have HF1 := Lib.hid (HF.out.below hb1)
          have HTD1 := Lib.hid (HTD.out.below hb1)
          refine hK _ _ ?_
          clear hK K hb1 b0 b1 b2 b3 b4 hg2
          refine wpList_plain rfl (fun K hK => ?_)
          go_simp
          refine hK _ _ ?_
          clear hK K
          have HZ := Lib.hid (show SB (w1.alloc (.cells (zeroW.map wv).toArray 98)) w1.heap.size zeroW from blk_new w1 _)
          have h16 : (na.map wv).toArray.size = 16 := by simp [hok.1]
          refine wpList_store_mid rfl 98 (.tmp 11) (.tmp 75) rfl w1.heap.size 0 (na.map wv).toArray rfl rfl (by rw [h16]; exact HZ.out.there okW_zero) (by rw [size98]; simp [hok.1]) (by simp [wv, Value.oneCell']) ?_
          have HSN := Lib.hid (HZ.out.puts okW_zero hok)
          have HB3 := Lib.hid (((Below.refl _ w1).alloc (Nat.le_refl _) (.cells (zeroW.map wv).toArray 98)).grown (grown_puts w1.heap.size (na.map wv) 0 _) (by simp) (fun k hk => by cases hk; exact Nat.le_refl _))
          have HF3 := Lib.hid (HF1.out.below HB3.out)
          have HTD3 := Lib.hid (HTD1.out.below HB3.out)
          have hwe : ((na.map wv).toArray).toList = na.map wv := by simp
          go_upto_region 18 with fail
          have hz16 : (zeroW.map wv).toArray = #[.int .u64 0, .int .u64 0, .int .u64 0, .int .u64 0, .int .u64 0, .int .u64 0, .int .u64 0, .int .u64 0, .int .u64 0, .int .u64 0, .int .u64 0, .int .u64 0, .int .u64 0, .int .u64 0, .int .u64 0, .int .u64 0] := rfl
          rw [hz16] at HSN HF3 HTD3
          clear HZ HB3 HF1 HTD1 hz16 HF HTD hwe
          generalize (w1.alloc (.cells #[.int .u64 0, .int .u64 0, .int .u64 0, .int .u64 0, .int .u64 0, .int .u64 0, .int .u64 0, .int .u64 0, .int .u64 0, .int .u64 0, .int .u64 0, .int .u64 0, .int .u64 0, .int .u64 0, .int .u64 0, .int .u64 0] 98)).setCells w1.heap.size 0 (List.map wv na) = w3 at *
          generalize w1.heap.size = ga at *
          have hil : n < ins.length := by rw [HIV.out.ok.len]; exact hnl
          have hok2 := HIV.out.ok.at n hnl
          have hl1 := fun w' (h : SB w' ga na) => run_loadAt_mid (P := Try.prog) w' ga 0 98 (na.map wv) (.array 16 96) (fun j v hj => by rw [Nat.zero_add, blk_cell h]; simpa using hj) Try.underlying98 rfl (by rw [size98, List.length_map, hok.1])
          have hl2 := fun w' (h : SR w' (w.heap.size + 1) ins) => run_loadAt_mid (P := Try.prog) w' (w.heap.size + 1) (16 * n) 98 ((ins.getD n []).map wv) (.array 16 96) (h.range n hil) Try.underlying98 rfl (by rw [size98, List.length_map, hok2.1])
          have heq := fun w' => eq98 na (ins.getD n []) hok.1 hok2.1 w'
          have HHE := Lib.hid (show setsGo bs (frmOf bs) (gk + 1) ins ((n : Int) :: st) = (if na = ins.getD n [] then setsGo bs (frmOf bs) gk ins st else setsGo bs (frmOf bs) gk (ins.set n na) (((frmOf bs).getD n []).reverse ++ st)) from by rw [setsGo, HAE.out]; rfl)
          have HSM := Lib.hid (fun e : na = ins.getD n [] => HIV.out.same (by rw [HAE.out]; exact e))
          have HMO := Lib.hid (HIV.out.more HB.out (frmOf_ok HB.out))
          rw [HAE.out, Int.toNat_natCast] at HMO
          generalize hold : ins.getD n [] = old at *
          refine wp_region_still_lit (by kernel_rfl) (by kernel_rfl) ?_
          refine wpStill_load rfl 98 (.tmp 11) rfl _ _ rfl (hl1 _ HSN.out.drew) ?_
          iterate 3 still_step
          refine wpStill_load rfl 98 (.tmp 79) rfl (.pointer (some ⟨w.heap.size + 1, 16 * n, none⟩)) _ (by rw [Nat.mul_comm 16 n]; rfl) (hl2 _ HF3.out.drew.si) ?_
          clear hl1 hl2
          have HT4 := Lib.hid (show TFr w #[.slice A0 l0.length c0, .int .i64 a1, .slice (some ad2) bs.length c2] ins vs (frmOf bs) (.slice (some ad) st.length c) st.reverse w3 from by
            have ht := Kd.R_take HTD3.out (m := st.length) (by simp)
            rw [List.take_append_of_le_length (by simp), List.take_of_length_le (by simp)] at ht
            exact ⟨HF3.out.b, HF3.out.c0, HF3.out.si, HF3.out.fr, ht, HF3.out.ap⟩)
          have hgo := HGO.out
          rw [HHE.out] at hgo
          have HGO2 := Lib.hid hgo
          clear hgo HHE HGO HTD3 HF3
          obtain ⟨gq, rfl⟩ : ∃ gq, gk = gq + 1 := ⟨gk - 1, by have := HBD.out; simp only [List.length_cons] at this; omega⟩
          by_cases hne : na = old
          · have hde : decide (na = old) = true := decide_eq_true hne
            have HNE := Lib.hid hne
            clear hne
            still_step
            refine wpStill_nil ?_
            go_wp2
            go_roundg gq
            case measure => omega
            case rel =>
              have hgo := HGO2.out
              rw [if_pos HNE.out] at hgo
              exact ⟨ins, st, HT4.out.drew, hgo, HSM.out HNE.out, by have := HBD.out; simp only [List.length_cons] at this; omega, by omega⟩
          · have hde : decide (na = old) = false := decide_eq_false hne
            have HNE := Lib.hid hne
            clear hne
            still_step
            refine wpStill_nil ?_
            go_upto_region 19 with fail
            refine wp_region_lit ?_
            iterate 2 (refine wpList_plain rfl (fun K hK => ?_); go_simp; refine hK _ _ ?_; clear hK K)
            refine wpList_load_row rfl 98 (.tmp 11) rfl ga rfl 98 (na.map wv).toArray (0, 0) (.array 16 96) HSN.out.drew Try.underlying98 rfl (by rw [size98]; simp [hok.1]) ?_
            have hu94 := Try.underlying94
            refine wpList_plain rfl (fun K hK => ?_)
            go_simp
            refine hK _ _ ?_
            clear hK K
            have hth := HT4.out.drew.si.there n hil
            rw [Nat.mul_comm] at hth
            refine wpList_store_mid rfl 98 (.tmp 85) (.tmp 84) rfl (w.heap.size + 1) (n * 16) (na.map wv).toArray rfl rfl (by rw [h16]; exact hth) (by rw [size98]; simp [hok.1]) (by simp [wv, Value.oneCell']) ?_
            have HT5 := Lib.hid (HT4.out.drew.put n hil na hok)
            rw [Nat.mul_comm 16 n] at HT5
            clear HT4 HSN hth
            rw [show (na.map wv).toArray.toList = na.map wv from by simp]
            generalize w3.drew.setCells (w.heap.size + 1) (n * 16) (na.map wv) = w5 at *
            go_upto_region 20 with fail
            have hfl : (frmOf bs).length = bs.length := by unfold frmOf; rw [frmGo_len, List.length_replicate]
            have hnf : n < (frmOf bs).length := by rw [hfl]; exact hnl
            have hce := (HT5.out.fr.cellOf n hnf).1
            have HE := Lib.hid (HT5.out.fr.row n hnf)
            have hfn := (frmOf_ok HB.out).len n hnl
            obtain ⟨A9, c9, hv9, hc9, hC9⟩ := Kd.R_reads HE.out
            rw [hv9] at hce
            have HFR := Lib.hid (show (frmOf bs).getD n [] = (frmOf bs).getD n [] from rfl)
            generalize hrow : (frmOf bs).getD n [] = row at *
            have hu28 := Try.underlying28
            have hu37 := Try.underlying37
            refine wp_region_lit ?_
            iterate 5 (refine wpList_plain rfl (fun K hK => ?_); go_simp; refine hK _ _ ?_; clear hK K)
            refine Kd.R_append_row (Value.int .i64) (0 : Int) (h1 := fun _ => rfl) (w0 := w) w.heap.size rfl (.tmp 86) (.tmp 90) 37 3 (.int .i64 0) 8 rfl Try.underlying37 infoS3 rfl (by decide) (.slice (some ad) st.length c) st.reverse row A9 row.length c9 (fun _ => True) rfl rfl (fun _ _ => trivial) HT5.out.td hC9 HT5.out.b HT5.out.b.size ?_ ?_
            · rw [List.length_reverse]; omega
            · intro v1 w6 hR1 hb1 hg1 hat1
              have HT6 := Lib.hid (HT5.out.push hR1 hg1 hat1)
              clear hR1 hb1 hg1 hat1 hce
              go_wp2
              go_roundg gq
              case measure => omega
              case rel =>
                have hgo := HGO2.out
                rw [if_neg HNE.out] at hgo
                have hmo := HMO.out.1
                try rw [hrow] at hmo
                have hb := HBD.out
                have hbs := bits_set ins n na hil
                rw [hold] at hbs
                have hlt : cntW old < cntW na := by
                  have hup := HIV.out.up n hnl
                  rw [hold, HAE.out] at hup
                  exact cntW_lt hok2 hok hup (fun e => HNE.out e.symm)
                have hle := bits_le (ins.set n na)
                rw [List.length_set, HIV.out.ok.len] at hle
                have hmul : (1024 * bs.length - bitsOf (ins.set n na) + 1) * (bs.length + 1) ≤ (1024 * bs.length - bitsOf ins) * (bs.length + 1) := Nat.mul_le_mul_right _ (by omega)
                rw [Nat.add_mul] at hmul
                refine ⟨ins.set n na, row.reverse ++ st, ?_, hgo, hmo, ?_, by omega⟩
                · rw [List.reverse_append, List.reverse_reverse]
                  exact HT6.out
                · simp only [List.length_append, List.length_reverse, List.length_cons] at hb ⊢
                  omega
end Go.Proofs.Ytjmeignhhheckaa.H
namespace Go.Proofs.Ytjmeignhhheckaa.Q
open Go.RowKit Go.Proofs.YtjmeignhhheckaaW.PrintWords Go.Proofs.YtjmeignhhheckaaW.PrintLast Go.Proofs.YtjmeignhhheckaaW.PrintMore
attribute [local go_sem] max2_int min2_int max_two min_two max_three min_three max_four min_four   -- for this text's walks alone
set_option linter.unusedVariables false
set_option linter.unusedSimpArgs false
def flow_check.f (l0_0 : List Bool) (a0_1 : Int) (l0_2 : List (S36)) : Option (Int) := (ir_Check.f 65536 (([(⟨l0_0, a0_1, l0_2⟩ : S25)] : List (S25)))).bind fun bt129 => (if bt129.2.2.2 = 0 then (some 0) else (some 14))
set_option maxHeartbeats 8000000 in
set_option maxRecDepth 100000 in
theorem flow_check.calls (P0_0_ : Nat → Prop) (A0_0 : Option Addr) (c0_0 : Nat) (l0_0 : List Bool) (a0_1 : Int) (P0_2_ : Nat → Prop) (A0_2 : Option Addr) (c0_2 : Nat) (l0_2 : List (S36)) (r : Int) (w : World) (hs0_0 : Kd.V Kd.bool 4 w w.heap.size (fun k_ => P0_0_ k_) (.slice A0_0 l0_0.length c0_0) l0_0) (hs0_2 : Kd.V k36 36 w w.heap.size (fun k_ => P0_2_ k_) (.slice A0_2 l0_2.length c0_2) l0_2) (h : flow_check.f l0_0 a0_1 l0_2 = some r) :
    Calls Try.prog 84 #[.agg #[.slice A0_0 l0_0.length c0_0, .int .i64 a0_1, .slice A0_2 l0_2.length c0_2]] w fun e w' => e = .returned (.int .i64 r) ∧ Below w.heap.size w w' := by
  have hu25 := Try.underlying25
  have hu54 := Try.underlying54
  have hu41 := Try.underlying41
  have HO0_0 := Aside0.mk (show Kd.V Kd.bool 4 w w.heap.size (fun k_ => ((P0_0_ k_ ∨ P0_2_ k_) ∨ w.heap.size ≤ k_)) (.slice A0_0 l0_0.length c0_0) l0_0 from Kd.V_mono hs0_0 (fun k_ hk => .inl (.inl hk)))
  have HO0_2 := Aside0.mk (show Kd.V k36 36 w w.heap.size (fun k_ => ((P0_0_ k_ ∨ P0_2_ k_) ∨ w.heap.size ≤ k_)) (.slice A0_2 l0_2.length c0_2) l0_2 from Kd.V_mono hs0_2 (fun k_ hk => .inl (.inr hk)))
  have HB := Aside0.mk (Below.refl w.heap.size w)
  have H : ((ir_Check.f 65536 (([(⟨l0_0, a0_1, l0_2⟩ : S25)] : List (S25)))).bind fun bt129 => (if bt129.2.2.2 = 0 then (some 0) else (some 14))) = some r := h
  clear h
  obtain ⟨y126, hy126⟩ : ∃ y_ : List (S25), y_ = (([(⟨l0_0, a0_1, l0_2⟩ : S25)] : List (S25))) := ⟨_, rfl⟩
  replace H : ((ir_Check.f 65536 y126).bind fun bt129 => (if bt129.2.2.2 = 0 then (some 0) else (some 14))) = some r := by first | (rw [hy126]; with_reducible exact H) | (have H2_ := (Option.bind_some _ _).symm.trans H; rw [hy126]; with_reducible exact H2_) | (have H2_ := (Option.bind_some _ _).symm.trans H; with_reducible exact H2_) | with_reducible exact H | (rw [hy126]; exact H) | exact H
  have Ny126 := Aside0.mk hy126
  clear hy126
  replace H := Option.bind_eq_some_iff.mp H
  obtain ⟨⟨t129, t130, t131, t132⟩, A20, H⟩ := H
  replace H : (if t132 = 0 then (some 0) else (some 14)) = some r := H
  have A2 := Aside0.mk A20
  clear A20
  by_cases c3 : t132 = 0
  · rw [if_pos c3] at H
    have c3b0 : (t132 == 0) = true := beq_iff_eq.mpr c3
    have c3b1 : (t132 != 0) = false := bne_eq_false_iff_eq.mpr c3
    clear c3
    obtain rfl := Option.some.inj H
    go_enter Try.func84, Try.ntmps84
    go_wp2_with (first | ((with_reducible refine gate_dst (N := 1) rfl ?_); refine box_event ?hg (N := 1) ?hd (cs := #[.slice A0_0 l0_0.length c0_0, .int .i64 a0_1, .slice A0_2 l0_2.length c0_2]) (t := 25) ?hr ?_; (case hd => rfl); (case hg => rfl); (case hr => first | (go_simp; done) | (go_simp; rfl)); intro gb125 hg w4 hbox hb; have n0_ := Aside0.mk (Kd.V_below (Kd.V_elderB (by (with_reducible repeat (first | apply Kd.V_alloc | apply Kd.V_drewN | apply Kd.V_drew)); exact HO0_0.out) gb125 (Nat.le_of_eq hg.symm)) hb); have n1_ := Aside0.mk (Kd.V_below (Kd.V_elderB (by (with_reducible repeat (first | apply Kd.V_alloc | apply Kd.V_drewN | apply Kd.V_drew)); exact HO0_2.out) gb125 (Nat.le_of_eq hg.symm)) hb); have n2_ := Aside0.mk (below_step (by repeat (first | (with_reducible first | exact HB.out | apply below_alloc | apply pw_below_drewN | apply below_drew1) | exact HB.out)) hb); have n3_ := Aside0.mk (hbox); have n4_ := Aside0.mk ((by rw [hg]; exact (below_size (by repeat (first | (with_reducible first | exact HB.out | apply below_alloc | apply pw_below_drewN | apply below_drew1) | exact HB.out))) : w.heap.size ≤ gb125)); have n5_ := Aside0.mk ((by rw [hg]; exact (below_size (by repeat (first | (with_reducible first | exact HB.out | apply below_alloc | apply pw_below_drewN | apply below_drew1) | exact HB.out))) : w.heap.size ≤ gb125)); clear HO0_0; clear HO0_2; clear HB; have HO0_0 := n0_; have HO0_2 := n1_; have HB := n2_; have BK125 := n3_; have GW125 := n4_; have GE125 := n5_; clear n0_ n1_ n2_ n3_ n4_ n5_; clear hb hbox hg; have hcz5_0 : w4.cell? ⟨gb125, 0, none⟩ = some (.slice A0_0 l0_0.length c0_0) := (blk_cell BK125.out 0).trans rfl; have hcz5_1 : w4.cell? ⟨gb125, 1, none⟩ = some (.int .i64 a0_1) := (blk_cell BK125.out 1).trans rfl; have hcz5_2 : w4.cell? ⟨gb125, 2, none⟩ = some (.slice A0_2 l0_2.length c0_2) := (blk_cell BK125.out 2).trans rfl; have hfz5_0 := blk_frozen BK125.out 0; have hfz5_1 := blk_frozen BK125.out 1; have hfz5_2 := blk_frozen BK125.out 2) | ((with_reducible refine gate_dst (N := 8) rfl ?_); refine Kd.N_lit k25 _ 25 ?hg (N' := 8) ?hd (xs := ([(⟨l0_0, a0_1, l0_2⟩ : S25)] : List (S25))) (inner := [.slice A0_0 l0_0.length c0_0, .int .i64 a0_1, .slice A0_2 l0_2.length c0_2]) (ok := (fun k_ => ((P0_0_ k_ ∨ P0_2_ k_) ∨ w.heap.size ≤ k_) ∧ k_ ≠ gb125)) (okp := (fun k_ => ((P0_0_ k_ ∨ P0_2_ k_) ∨ w.heap.size ≤ k_) ∧ k_ ≠ gb125)) ?hr ?hp (fun _ hk => hk) ((show ∀ k_, w4.heap.size ≤ k_ → (fun k_ => ((P0_0_ k_ ∨ P0_2_ k_) ∨ w.heap.size ≤ k_) ∧ k_ ≠ gb125) k_ from fun k_ hk => ⟨(.inr (Nat.le_trans (below_size (by repeat (first | (with_reducible first | exact HB.out | apply below_alloc | apply pw_below_drewN | apply below_drew1 | refine below_set ?_ GE125.out) | exact HB.out))) hk)), Kd.freshB (g := gb125) (o := .cells #[.slice A0_0 l0_0.length c0_0, .int .i64 a0_1, .slice A0_2 l0_2.length c0_2] 25 (0, 0)) (by (with_reducible repeat (first | refine blk_drewN ?_ _ | refine blk_drew ?_ | refine blk_alloc ?_ _)); exact BK125.out) k_ hk⟩) _ (Nat.le_refl _)) (Below.refl _ _) (Nat.le_refl _) (by simp) ?_; (case hd => rfl); (case hg => rfl); (case hr => first | (go_simp; done) | (go_simp; rfl)); (case hp => exact (Reps.c3 (show Kd.FK k25 _ _ (⟨l0_0, a0_1, l0_2⟩ : S25) [.slice A0_0 l0_0.length c0_0, .int .i64 a0_1, .slice A0_2 l0_2.length c0_2] from (k25_mkF _ _ (⟨l0_0, a0_1, l0_2⟩ : S25) (Kd.V_reads' (Kd.V_mono (ok' := (fun k_ => ((P0_0_ k_ ∨ P0_2_ k_) ∨ w.heap.size ≤ k_) ∧ k_ ≠ gb125)) (HO0_0.out) (fun k_ hk => ⟨hk.1, hk.2⟩))).2.1 (Kd.V_F (Kd.V_mono (ok' := (fun k_ => ((P0_0_ k_ ∨ P0_2_ k_) ∨ w.heap.size ≤ k_) ∧ k_ ≠ gb125)) (HO0_0.out) (fun k_ hk => ⟨hk.1, hk.2⟩))) (Kd.V_reads' (Kd.V_mono (ok' := (fun k_ => ((P0_0_ k_ ∨ P0_2_ k_) ∨ w.heap.size ≤ k_) ∧ k_ ≠ gb125)) (HO0_2.out) (fun k_ hk => ⟨hk.1, hk.2⟩))).2.1 (Kd.V_F (Kd.V_mono (ok' := (fun k_ => ((P0_0_ k_ ∨ P0_2_ k_) ∨ w.heap.size ≤ k_) ∧ k_ ≠ gb125)) (HO0_2.out) (fun k_ hk => ⟨hk.1, hk.2⟩))))) (Reps.none _ _))); intro v127 w6 ho7 hb hg_ hnew_; clear hg_ hnew_; (first | rw [← Ny126.out] at ho7 | (simp only [Int.reduceToNat] at ho7; rw [← Ny126.out] at ho7)); have n0_ := Aside0.mk (Kd.V_elder' (by (with_reducible repeat (first | apply Kd.V_alloc | apply Kd.V_drewN | apply Kd.V_drew)); exact HO0_0.out) (Kd.N_base ho7) hb); have n1_ := Aside0.mk (Kd.V_elder' (by (with_reducible repeat (first | apply Kd.V_alloc | apply Kd.V_drewN | apply Kd.V_drew)); exact HO0_2.out) (Kd.N_base ho7) hb); have n2_ := Aside0.mk (Kd.N_lower ho7 (below_size (by repeat (first | (with_reducible first | exact HB.out | apply below_alloc | apply pw_below_drewN | apply below_drew1 | refine below_set ?_ GE125.out) | exact HB.out)))); have n3_ := Aside0.mk (blk_below (g := gb125) (o := .cells #[.slice A0_0 l0_0.length c0_0, .int .i64 a0_1, .slice A0_2 l0_2.length c0_2] 25 (0, 0)) (by (with_reducible repeat (first | refine blk_drewN ?_ _ | refine blk_drew ?_ | refine blk_alloc ?_ _)); exact BK125.out) hb); have n4_ := Aside0.mk (below_step (by repeat (first | (with_reducible first | exact HB.out | apply below_alloc | apply pw_below_drewN | apply below_drew1 | refine below_set ?_ GE125.out) | exact HB.out)) hb); clear HO0_0; clear HO0_2; clear BK125; clear HB; have HO0_0 := n0_; have HO0_2 := n1_; have HO128 := n2_; have BK125 := n3_; have HB := n4_; clear n0_ n1_ n2_ n3_ n4_; clear hb ho7; obtain ⟨Ao8, co8, eo8⟩ := Kd.N_slice HO128.out; subst eo8) | ((with_reducible refine gate_callee (f := 66) rfl ?_); refine goesL_ (some 10) rfl rfl Try.func66 (by kernel_rfl) rfl #[.agg #[.int .i64 65536, .slice Ao8 y126.length co8]] rfl (by (try simp only [List.map_toArray, List.map_cons, List.map_nil]); first | done | rfl | (simp only [List.length_drop, List.length_take]; rfl)) ?_; (with_reducible refine (ir_Check.calls 65536 _ _ y126 t129 t130 t131 t132 _ ?side1 ?side2 A2.out).mono ?_); (case side1 => repeat (first | exact (Kd.N_reads' HO128.out).2.2 | (with_reducible refine Kd.C_alloc ?_ _) | (with_reducible refine Kd.C_drewN ?_ _) | (with_reducible refine Kd.C_drew ?_))); (case side2 => exact (Kd.N_reads' HO128.out).2.1); rintro e w9 ⟨rfl, hb⟩; refine ⟨_, rfl, ?_⟩; have n0_ := Aside0.mk (Kd.V_below (by (with_reducible repeat (first | apply Kd.V_alloc | apply Kd.V_drewN | apply Kd.V_drew)); exact HO0_0.out) hb); have n1_ := Aside0.mk (Kd.V_below (by (with_reducible repeat (first | apply Kd.V_alloc | apply Kd.V_drewN | apply Kd.V_drew)); exact HO0_2.out) hb); have n2_ := Aside0.mk (Kd.N_below (by (with_reducible repeat (first | apply Kd.N_alloc | apply Kd.N_drewN | apply Kd.N_drew)); exact HO128.out) hb); have n3_ := Aside0.mk (blk_below (g := gb125) (o := .cells #[.slice A0_0 l0_0.length c0_0, .int .i64 a0_1, .slice A0_2 l0_2.length c0_2] 25 (0, 0)) (by (with_reducible repeat (first | refine blk_drewN ?_ _ | refine blk_drew ?_ | refine blk_alloc ?_ _)); exact BK125.out) hb); have n4_ := Aside0.mk (below_step (by repeat (first | (with_reducible first | exact HB.out | apply below_alloc | apply pw_below_drewN | apply below_drew1 | refine below_set ?_ GE125.out) | exact HB.out)) hb); clear HO0_0; clear HO0_2; clear HO128; clear BK125; clear HB; have HO0_0 := n0_; have HO0_2 := n1_; have HO128 := n2_; have BK125 := n3_; have HB := n4_; clear n0_ n1_ n2_ n3_ n4_; (try clear hb); (try clear hb2); (try clear hk); (try clear hi)) | ((with_reducible refine gate_dst (N := 4) rfl ?_); refine box_event ?hg (N := 4) ?hd (cs := #[.int .i64 0, .int .i64 0]) (t := 41) ?hr ?_; (case hd => rfl); (case hg => rfl); (case hr => first | (go_simp; done) | (go_simp; rfl)); intro gb133 hg w10 hbox hb; have n0_ := Aside0.mk (Kd.V_below (Kd.V_elderB (by (with_reducible repeat (first | apply Kd.V_alloc | apply Kd.V_drewN | apply Kd.V_drew)); exact HO0_0.out) gb133 (Nat.le_of_eq hg.symm)) hb); have n1_ := Aside0.mk (Kd.V_below (Kd.V_elderB (by (with_reducible repeat (first | apply Kd.V_alloc | apply Kd.V_drewN | apply Kd.V_drew)); exact HO0_2.out) gb133 (Nat.le_of_eq hg.symm)) hb); have n2_ := Aside0.mk (Kd.N_below (Kd.N_elderB (by (with_reducible repeat (first | apply Kd.N_alloc | apply Kd.N_drewN | apply Kd.N_drew)); exact HO128.out) gb133 (Nat.le_of_eq hg.symm)) hb); have n3_ := Aside0.mk (blk_below (g := gb125) (o := .cells #[.slice A0_0 l0_0.length c0_0, .int .i64 a0_1, .slice A0_2 l0_2.length c0_2] 25 (0, 0)) (by (with_reducible repeat (first | refine blk_drewN ?_ _ | refine blk_drew ?_ | refine blk_alloc ?_ _)); exact BK125.out) hb); have n4_ := Aside0.mk (below_step (by repeat (first | (with_reducible first | exact HB.out | apply below_alloc | apply pw_below_drewN | apply below_drew1 | refine below_set ?_ GE125.out) | exact HB.out)) hb); have n5_ := Aside0.mk (hbox); have n6_ := Aside0.mk ((by rw [hg]; exact (below_size (by repeat (first | (with_reducible first | exact HB.out | apply below_alloc | apply pw_below_drewN | apply below_drew1 | refine below_set ?_ GE125.out) | exact HB.out))) : w.heap.size ≤ gb133)); have n7_ := Aside0.mk ((by rw [hg]; exact (below_size (by repeat (first | (with_reducible first | exact HB.out | apply below_alloc | apply pw_below_drewN | apply below_drew1 | refine below_set ?_ GE125.out) | exact HB.out))) : w.heap.size ≤ gb133)); have n8_ := Aside0.mk ((by rw [hg]; exact Nat.ne_of_lt (blk_lt (g := gb125) (o := .cells #[.slice A0_0 l0_0.length c0_0, .int .i64 a0_1, .slice A0_2 l0_2.length c0_2] 25 (0, 0)) (by (with_reducible repeat (first | refine blk_drewN ?_ _ | refine blk_drew ?_ | refine blk_alloc ?_ _)); exact BK125.out)) : gb125 ≠ gb133)); have n9_ := Aside0.mk ((by rw [hg]; exact Nat.ne_of_gt (blk_lt (g := gb125) (o := .cells #[.slice A0_0 l0_0.length c0_0, .int .i64 a0_1, .slice A0_2 l0_2.length c0_2] 25 (0, 0)) (by (with_reducible repeat (first | refine blk_drewN ?_ _ | refine blk_drew ?_ | refine blk_alloc ?_ _)); exact BK125.out)) : gb133 ≠ gb125)); clear HO0_0; clear HO0_2; clear HO128; clear BK125; clear HB; have HO0_0 := n0_; have HO0_2 := n1_; have HO128 := n2_; have BK125 := n3_; have HB := n4_; have BK133 := n5_; have GW133 := n6_; have GE133 := n7_; have NB125_133 := n8_; have NB133_125 := n9_; clear n0_ n1_ n2_ n3_ n4_ n5_ n6_ n7_ n8_ n9_; clear hb hbox hg; have hnb11 := NB133_125.out; have hnc11 := NB125_133.out; have hcz12_0 : w10.cell? ⟨gb133, 0, none⟩ = some (.int .i64 0) := (blk_cell BK133.out 0).trans rfl; have hcz12_1 : w10.cell? ⟨gb133, 1, none⟩ = some (.int .i64 0) := (blk_cell BK133.out 1).trans rfl; have hfz12_0 := blk_frozen BK133.out 0; have hfz12_1 := blk_frozen BK133.out 1))
    go_ret
    exact ⟨by first | rfl | (simp [errW_none, errW_some] <;> rfl) | (simp [*, errW_none, errW_some] <;> rfl), by repeat (first | (with_reducible first | exact HB.out | apply below_alloc | apply pw_below_drewN | apply below_drew1 | refine below_set ?_ GE125.out | refine below_set ?_ GE133.out) | exact HB.out)⟩
  · rw [if_neg c3] at H
    have c3b0 : (t132 == 0) = false := beq_eq_false_iff_ne.mpr c3
    have c3b1 : (t132 != 0) = true := bne_iff_ne.mpr c3
    obtain rfl := Option.some.inj H
    go_enter Try.func84, Try.ntmps84
    go_wp2_with (first | ((with_reducible refine gate_dst (N := 1) rfl ?_); refine box_event ?hg (N := 1) ?hd (cs := #[.slice A0_0 l0_0.length c0_0, .int .i64 a0_1, .slice A0_2 l0_2.length c0_2]) (t := 25) ?hr ?_; (case hd => rfl); (case hg => rfl); (case hr => first | (go_simp; done) | (go_simp; rfl)); intro gb125 hg w13 hbox hb; have n0_ := Aside0.mk (Kd.V_below (Kd.V_elderB (by (with_reducible repeat (first | apply Kd.V_alloc | apply Kd.V_drewN | apply Kd.V_drew)); exact HO0_0.out) gb125 (Nat.le_of_eq hg.symm)) hb); have n1_ := Aside0.mk (Kd.V_below (Kd.V_elderB (by (with_reducible repeat (first | apply Kd.V_alloc | apply Kd.V_drewN | apply Kd.V_drew)); exact HO0_2.out) gb125 (Nat.le_of_eq hg.symm)) hb); have n2_ := Aside0.mk (below_step (by repeat (first | (with_reducible first | exact HB.out | apply below_alloc | apply pw_below_drewN | apply below_drew1) | exact HB.out)) hb); have n3_ := Aside0.mk (hbox); have n4_ := Aside0.mk ((by rw [hg]; exact (below_size (by repeat (first | (with_reducible first | exact HB.out | apply below_alloc | apply pw_below_drewN | apply below_drew1) | exact HB.out))) : w.heap.size ≤ gb125)); have n5_ := Aside0.mk ((by rw [hg]; exact (below_size (by repeat (first | (with_reducible first | exact HB.out | apply below_alloc | apply pw_below_drewN | apply below_drew1) | exact HB.out))) : w.heap.size ≤ gb125)); clear HO0_0; clear HO0_2; clear HB; have HO0_0 := n0_; have HO0_2 := n1_; have HB := n2_; have BK125 := n3_; have GW125 := n4_; have GE125 := n5_; clear n0_ n1_ n2_ n3_ n4_ n5_; clear hb hbox hg; have hcz14_0 : w13.cell? ⟨gb125, 0, none⟩ = some (.slice A0_0 l0_0.length c0_0) := (blk_cell BK125.out 0).trans rfl; have hcz14_1 : w13.cell? ⟨gb125, 1, none⟩ = some (.int .i64 a0_1) := (blk_cell BK125.out 1).trans rfl; have hcz14_2 : w13.cell? ⟨gb125, 2, none⟩ = some (.slice A0_2 l0_2.length c0_2) := (blk_cell BK125.out 2).trans rfl; have hfz14_0 := blk_frozen BK125.out 0; have hfz14_1 := blk_frozen BK125.out 1; have hfz14_2 := blk_frozen BK125.out 2) | ((with_reducible refine gate_dst (N := 8) rfl ?_); refine Kd.N_lit k25 _ 25 ?hg (N' := 8) ?hd (xs := ([(⟨l0_0, a0_1, l0_2⟩ : S25)] : List (S25))) (inner := [.slice A0_0 l0_0.length c0_0, .int .i64 a0_1, .slice A0_2 l0_2.length c0_2]) (ok := (fun k_ => ((P0_0_ k_ ∨ P0_2_ k_) ∨ w.heap.size ≤ k_) ∧ k_ ≠ gb125)) (okp := (fun k_ => ((P0_0_ k_ ∨ P0_2_ k_) ∨ w.heap.size ≤ k_) ∧ k_ ≠ gb125)) ?hr ?hp (fun _ hk => hk) ((show ∀ k_, w13.heap.size ≤ k_ → (fun k_ => ((P0_0_ k_ ∨ P0_2_ k_) ∨ w.heap.size ≤ k_) ∧ k_ ≠ gb125) k_ from fun k_ hk => ⟨(.inr (Nat.le_trans (below_size (by repeat (first | (with_reducible first | exact HB.out | apply below_alloc | apply pw_below_drewN | apply below_drew1 | refine below_set ?_ GE125.out) | exact HB.out))) hk)), Kd.freshB (g := gb125) (o := .cells #[.slice A0_0 l0_0.length c0_0, .int .i64 a0_1, .slice A0_2 l0_2.length c0_2] 25 (0, 0)) (by (with_reducible repeat (first | refine blk_drewN ?_ _ | refine blk_drew ?_ | refine blk_alloc ?_ _)); exact BK125.out) k_ hk⟩) _ (Nat.le_refl _)) (Below.refl _ _) (Nat.le_refl _) (by simp) ?_; (case hd => rfl); (case hg => rfl); (case hr => first | (go_simp; done) | (go_simp; rfl)); (case hp => exact (Reps.c3 (show Kd.FK k25 _ _ (⟨l0_0, a0_1, l0_2⟩ : S25) [.slice A0_0 l0_0.length c0_0, .int .i64 a0_1, .slice A0_2 l0_2.length c0_2] from (k25_mkF _ _ (⟨l0_0, a0_1, l0_2⟩ : S25) (Kd.V_reads' (Kd.V_mono (ok' := (fun k_ => ((P0_0_ k_ ∨ P0_2_ k_) ∨ w.heap.size ≤ k_) ∧ k_ ≠ gb125)) (HO0_0.out) (fun k_ hk => ⟨hk.1, hk.2⟩))).2.1 (Kd.V_F (Kd.V_mono (ok' := (fun k_ => ((P0_0_ k_ ∨ P0_2_ k_) ∨ w.heap.size ≤ k_) ∧ k_ ≠ gb125)) (HO0_0.out) (fun k_ hk => ⟨hk.1, hk.2⟩))) (Kd.V_reads' (Kd.V_mono (ok' := (fun k_ => ((P0_0_ k_ ∨ P0_2_ k_) ∨ w.heap.size ≤ k_) ∧ k_ ≠ gb125)) (HO0_2.out) (fun k_ hk => ⟨hk.1, hk.2⟩))).2.1 (Kd.V_F (Kd.V_mono (ok' := (fun k_ => ((P0_0_ k_ ∨ P0_2_ k_) ∨ w.heap.size ≤ k_) ∧ k_ ≠ gb125)) (HO0_2.out) (fun k_ hk => ⟨hk.1, hk.2⟩))))) (Reps.none _ _))); intro v127 w15 ho16 hb hg_ hnew_; clear hg_ hnew_; (first | rw [← Ny126.out] at ho16 | (simp only [Int.reduceToNat] at ho16; rw [← Ny126.out] at ho16)); have n0_ := Aside0.mk (Kd.V_elder' (by (with_reducible repeat (first | apply Kd.V_alloc | apply Kd.V_drewN | apply Kd.V_drew)); exact HO0_0.out) (Kd.N_base ho16) hb); have n1_ := Aside0.mk (Kd.V_elder' (by (with_reducible repeat (first | apply Kd.V_alloc | apply Kd.V_drewN | apply Kd.V_drew)); exact HO0_2.out) (Kd.N_base ho16) hb); have n2_ := Aside0.mk (Kd.N_lower ho16 (below_size (by repeat (first | (with_reducible first | exact HB.out | apply below_alloc | apply pw_below_drewN | apply below_drew1 | refine below_set ?_ GE125.out) | exact HB.out)))); have n3_ := Aside0.mk (blk_below (g := gb125) (o := .cells #[.slice A0_0 l0_0.length c0_0, .int .i64 a0_1, .slice A0_2 l0_2.length c0_2] 25 (0, 0)) (by (with_reducible repeat (first | refine blk_drewN ?_ _ | refine blk_drew ?_ | refine blk_alloc ?_ _)); exact BK125.out) hb); have n4_ := Aside0.mk (below_step (by repeat (first | (with_reducible first | exact HB.out | apply below_alloc | apply pw_below_drewN | apply below_drew1 | refine below_set ?_ GE125.out) | exact HB.out)) hb); clear HO0_0; clear HO0_2; clear BK125; clear HB; have HO0_0 := n0_; have HO0_2 := n1_; have HO128 := n2_; have BK125 := n3_; have HB := n4_; clear n0_ n1_ n2_ n3_ n4_; clear hb ho16; obtain ⟨Ao17, co17, eo17⟩ := Kd.N_slice HO128.out; subst eo17) | ((with_reducible refine gate_callee (f := 66) rfl ?_); refine goesL_ (some 10) rfl rfl Try.func66 (by kernel_rfl) rfl #[.agg #[.int .i64 65536, .slice Ao17 y126.length co17]] rfl (by (try simp only [List.map_toArray, List.map_cons, List.map_nil]); first | done | rfl | (simp only [List.length_drop, List.length_take]; rfl)) ?_; (with_reducible refine (ir_Check.calls 65536 _ _ y126 t129 t130 t131 t132 _ ?side1 ?side2 A2.out).mono ?_); (case side1 => repeat (first | exact (Kd.N_reads' HO128.out).2.2 | (with_reducible refine Kd.C_alloc ?_ _) | (with_reducible refine Kd.C_drewN ?_ _) | (with_reducible refine Kd.C_drew ?_))); (case side2 => exact (Kd.N_reads' HO128.out).2.1); rintro e w18 ⟨rfl, hb⟩; refine ⟨_, rfl, ?_⟩; have n0_ := Aside0.mk (Kd.V_below (by (with_reducible repeat (first | apply Kd.V_alloc | apply Kd.V_drewN | apply Kd.V_drew)); exact HO0_0.out) hb); have n1_ := Aside0.mk (Kd.V_below (by (with_reducible repeat (first | apply Kd.V_alloc | apply Kd.V_drewN | apply Kd.V_drew)); exact HO0_2.out) hb); have n2_ := Aside0.mk (Kd.N_below (by (with_reducible repeat (first | apply Kd.N_alloc | apply Kd.N_drewN | apply Kd.N_drew)); exact HO128.out) hb); have n3_ := Aside0.mk (blk_below (g := gb125) (o := .cells #[.slice A0_0 l0_0.length c0_0, .int .i64 a0_1, .slice A0_2 l0_2.length c0_2] 25 (0, 0)) (by (with_reducible repeat (first | refine blk_drewN ?_ _ | refine blk_drew ?_ | refine blk_alloc ?_ _)); exact BK125.out) hb); have n4_ := Aside0.mk (below_step (by repeat (first | (with_reducible first | exact HB.out | apply below_alloc | apply pw_below_drewN | apply below_drew1 | refine below_set ?_ GE125.out) | exact HB.out)) hb); clear HO0_0; clear HO0_2; clear HO128; clear BK125; clear HB; have HO0_0 := n0_; have HO0_2 := n1_; have HO128 := n2_; have BK125 := n3_; have HB := n4_; clear n0_ n1_ n2_ n3_ n4_; (try clear hb); (try clear hb2); (try clear hk); (try clear hi)) | ((with_reducible refine gate_dst (N := 4) rfl ?_); refine box_event ?hg (N := 4) ?hd (cs := #[.int .i64 0, .int .i64 0]) (t := 41) ?hr ?_; (case hd => rfl); (case hg => rfl); (case hr => first | (go_simp; done) | (go_simp; rfl)); intro gb133 hg w19 hbox hb; have n0_ := Aside0.mk (Kd.V_below (Kd.V_elderB (by (with_reducible repeat (first | apply Kd.V_alloc | apply Kd.V_drewN | apply Kd.V_drew)); exact HO0_0.out) gb133 (Nat.le_of_eq hg.symm)) hb); have n1_ := Aside0.mk (Kd.V_below (Kd.V_elderB (by (with_reducible repeat (first | apply Kd.V_alloc | apply Kd.V_drewN | apply Kd.V_drew)); exact HO0_2.out) gb133 (Nat.le_of_eq hg.symm)) hb); have n2_ := Aside0.mk (Kd.N_below (Kd.N_elderB (by (with_reducible repeat (first | apply Kd.N_alloc | apply Kd.N_drewN | apply Kd.N_drew)); exact HO128.out) gb133 (Nat.le_of_eq hg.symm)) hb); have n3_ := Aside0.mk (blk_below (g := gb125) (o := .cells #[.slice A0_0 l0_0.length c0_0, .int .i64 a0_1, .slice A0_2 l0_2.length c0_2] 25 (0, 0)) (by (with_reducible repeat (first | refine blk_drewN ?_ _ | refine blk_drew ?_ | refine blk_alloc ?_ _)); exact BK125.out) hb); have n4_ := Aside0.mk (below_step (by repeat (first | (with_reducible first | exact HB.out | apply below_alloc | apply pw_below_drewN | apply below_drew1 | refine below_set ?_ GE125.out) | exact HB.out)) hb); have n5_ := Aside0.mk (hbox); have n6_ := Aside0.mk ((by rw [hg]; exact (below_size (by repeat (first | (with_reducible first | exact HB.out | apply below_alloc | apply pw_below_drewN | apply below_drew1 | refine below_set ?_ GE125.out) | exact HB.out))) : w.heap.size ≤ gb133)); have n7_ := Aside0.mk ((by rw [hg]; exact (below_size (by repeat (first | (with_reducible first | exact HB.out | apply below_alloc | apply pw_below_drewN | apply below_drew1 | refine below_set ?_ GE125.out) | exact HB.out))) : w.heap.size ≤ gb133)); have n8_ := Aside0.mk ((by rw [hg]; exact Nat.ne_of_lt (blk_lt (g := gb125) (o := .cells #[.slice A0_0 l0_0.length c0_0, .int .i64 a0_1, .slice A0_2 l0_2.length c0_2] 25 (0, 0)) (by (with_reducible repeat (first | refine blk_drewN ?_ _ | refine blk_drew ?_ | refine blk_alloc ?_ _)); exact BK125.out)) : gb125 ≠ gb133)); have n9_ := Aside0.mk ((by rw [hg]; exact Nat.ne_of_gt (blk_lt (g := gb125) (o := .cells #[.slice A0_0 l0_0.length c0_0, .int .i64 a0_1, .slice A0_2 l0_2.length c0_2] 25 (0, 0)) (by (with_reducible repeat (first | refine blk_drewN ?_ _ | refine blk_drew ?_ | refine blk_alloc ?_ _)); exact BK125.out)) : gb133 ≠ gb125)); clear HO0_0; clear HO0_2; clear HO128; clear BK125; clear HB; have HO0_0 := n0_; have HO0_2 := n1_; have HO128 := n2_; have BK125 := n3_; have HB := n4_; have BK133 := n5_; have GW133 := n6_; have GE133 := n7_; have NB125_133 := n8_; have NB133_125 := n9_; clear n0_ n1_ n2_ n3_ n4_ n5_ n6_ n7_ n8_ n9_; clear hb hbox hg; have hnb20 := NB133_125.out; have hnc20 := NB125_133.out; have hcz21_0 : w19.cell? ⟨gb133, 0, none⟩ = some (.int .i64 0) := (blk_cell BK133.out 0).trans rfl; have hcz21_1 : w19.cell? ⟨gb133, 1, none⟩ = some (.int .i64 0) := (blk_cell BK133.out 1).trans rfl; have hfz21_0 := blk_frozen BK133.out 0; have hfz21_1 := blk_frozen BK133.out 1))
    go_ret
    exact ⟨by first | rfl | (simp [errW_none, errW_some] <;> rfl) | (simp [*, errW_none, errW_some] <;> rfl), by repeat (first | (with_reducible first | exact HB.out | apply below_alloc | apply pw_below_drewN | apply below_drew1 | refine below_set ?_ GE125.out | refine below_set ?_ GE133.out) | exact HB.out)⟩
end Go.Proofs.Ytjmeignhhheckaa.Q
namespace Go.Proofs.Ytjmeignhhheckaa.Q
open Go.RowKit Go.Proofs.YtjmeignhhheckaaW.PrintWords Go.Proofs.YtjmeignhhheckaaW.PrintLast Go.Proofs.YtjmeignhhheckaaW.PrintMore
attribute [local go_sem] max2_int min2_int max_two min_two max_three min_three max_four min_four   -- for this text's walks alone
set_option linter.unusedVariables false
set_option linter.unusedSimpArgs false
def flow_Reach.l0 : Nat → List Bool → List Int → Int → Int → Option (List Bool × Int)
  | 0, _, _, _, _ => none
  | k + 1, x5, x18, x19, x20 => if x20 < x19 then (if 0 ≤ x20 then (if x20 < (x18.length : Int) then (if 0 ≤ (rd x18 x20) then (if (rd x18 x20) < (x5.length : Int) then (flow_Reach.l0 k (x5.set ((rd x18 x20) : Int).toNat true) x18 x19 (wrap64 (x20 + 1))) else (none)) else (none)) else (none)) else (none)) else (some (x5, 0))
def flow_Reach.f (k : Nat) (l0_0 : List Bool) (a0_1 : Int) (l0_2 : List (S36)) : Option (List Bool × Int) := (flow_check.f l0_0 a0_1 l0_2).bind fun t135 => (if t135 = 0 then (if 0 ≤ (l0_2.length : Int) then (if ((l0_2.length : Int) : Int).toNat ≤ 281474976710656 then ((paths_Order.f l0_0 a0_1 l0_2).bind fun t139 => (flow_Reach.l0 k (List.replicate ((l0_2.length : Int) : Int).toNat false) t139 (t139.length : Int) 0)) else (none)) else (none)) else (some (([] : List Bool), t135)))
theorem flow_Reach.mono_l : ∀ k, (∀ y0 y1 y2 y3, LeO (flow_Reach.l0 k y0 y1 y2 y3) (flow_Reach.l0 (k + 1) y0 y1 y2 y3))
  | 0 => fun _ _ _ _ r h => by simp [flow_Reach.l0] at h
  | k + 1 => by
    have ih0 := flow_Reach.mono_l k
    · intro y0 y1 y2 y3
      unfold flow_Reach.l0
      repeat' first
      | (with_reducible exact ih0 _ _ _ _)
      | (with_reducible exact LeO.refl _)
      | (with_reducible exact LeO.none _)
      | (with_reducible refine LeO.ite ?_ ?_)
      | (with_reducible refine LeO.bind ?_ (fun _ => ?_))
      | exact ih0 _ _ _ _
      | exact LeO.none _
      | refine LeO.ite ?_ ?_
      | refine LeO.bind ?_ (fun _ => ?_)
theorem flow_Reach.mono : ∀ a0 a1 a2 k, LeO (flow_Reach.f k a0 a1 a2) (flow_Reach.f (k + 1) a0 a1 a2) := by
  intro a0 a1 a2 k
  have ih0 := flow_Reach.mono_l k
  unfold flow_Reach.f
  repeat' first
      | (with_reducible exact ih0 _ _ _ _)
      | (with_reducible exact LeO.refl _)
      | (with_reducible exact LeO.none _)
      | (with_reducible refine LeO.ite ?_ ?_)
      | (with_reducible refine LeO.bind ?_ (fun _ => ?_))
      | exact ih0 _ _ _ _
      | exact LeO.none _
      | refine LeO.ite ?_ ?_
      | refine LeO.bind ?_ (fun _ => ?_)
set_option maxHeartbeats 8000000 in
set_option maxRecDepth 100000 in
theorem flow_Reach.calls (k : Nat) (A0_0 : Option Addr) (c0_0 : Nat) (l0_0 : List Bool) (a0_1 : Int) (A0_2 : Option Addr) (c0_2 : Nat) (l0_2 : List (S36)) (r1 : List Bool) (r2 : Int) (w : World) (hr0_0 : Kd.C Kd.bool w A0_0 l0_0.length l0_0) (hc0_0 : l0_0.length ≤ c0_0) (hr0_2 : Kd.C k36 w A0_2 l0_2.length l0_2) (hc0_2 : l0_2.length ≤ c0_2) (h : flow_Reach.f k l0_0 a0_1 l0_2 = some (r1, r2)) :
    Calls Try.prog 49 #[.agg #[.slice A0_0 l0_0.length c0_0, .int .i64 a0_1, .slice A0_2 l0_2.length c0_2]] w fun e w' => ∃ v0_ : Value, e = .returned (.tuple #[v0_, .int .i64 r2]) ∧ Kd.R Kd.bool 4 w' w.heap.size (fun _ => True) v0_ r1 ∧ Below w.heap.size w w' := by
  have hu25 := Try.underlying25
  have HR0_0 := Aside0.mk hr0_0
  have HC0_0 := Aside0.mk hc0_0
  clear hr0_0 hc0_0
  have HR0_2 := Aside0.mk hr0_2
  have HC0_2 := Aside0.mk hc0_2
  clear hr0_2 hc0_2
  have HB := Aside0.mk (Below.refl w.heap.size w)
  have H : ((flow_check.f l0_0 a0_1 l0_2).bind fun t135 => (if t135 = 0 then (if 0 ≤ (l0_2.length : Int) then (if ((l0_2.length : Int) : Int).toNat ≤ 281474976710656 then ((paths_Order.f l0_0 a0_1 l0_2).bind fun t139 => (flow_Reach.l0 k (List.replicate ((l0_2.length : Int) : Int).toNat false) t139 (t139.length : Int) 0)) else (none)) else (none)) else (some (([] : List Bool), t135)))) = some (r1, r2) := h
  clear h
  replace H := Option.bind_eq_some_iff.mp H
  obtain ⟨t135, A20, H⟩ := H
  replace H : (if t135 = 0 then (if 0 ≤ (l0_2.length : Int) then (if ((l0_2.length : Int) : Int).toNat ≤ 281474976710656 then ((paths_Order.f l0_0 a0_1 l0_2).bind fun t139 => (flow_Reach.l0 k (List.replicate ((l0_2.length : Int) : Int).toNat false) t139 (t139.length : Int) 0)) else (none)) else (none)) else (some (([] : List Bool), t135))) = some (r1, r2) := H
  have A2 := Aside0.mk A20
  clear A20
  by_cases c3 : t135 = 0
  · rw [if_pos c3] at H
    have c3b0 : (t135 == 0) = true := beq_iff_eq.mpr c3
    have c3b1 : (t135 != 0) = false := bne_eq_false_iff_eq.mpr c3
    clear c3
    by_cases c4 : 0 ≤ (l0_2.length : Int)
    · rw [if_pos c4] at H
      have c4b0 := eq_true c4
      have c4b1 : decide (0 ≤ (l0_2.length : Int)) = true := decide_eq_true c4
      clear c4
      by_cases c5 : ((l0_2.length : Int) : Int).toNat ≤ 281474976710656
      · rw [if_pos c5] at H
        have c5b0 := eq_true c5
        have c5b1 : decide (((l0_2.length : Int) : Int).toNat ≤ 281474976710656) = true := decide_eq_true c5
        clear c5
        obtain ⟨y136, hy136⟩ : ∃ y_ : List Bool, y_ = (List.replicate ((l0_2.length : Int) : Int).toNat false) := ⟨_, rfl⟩
        replace H : ((paths_Order.f l0_0 a0_1 l0_2).bind fun t139 => (flow_Reach.l0 k y136 t139 (t139.length : Int) 0)) = some (r1, r2) := by first | (rw [hy136]; with_reducible exact H) | (have H2_ := (Option.bind_some _ _).symm.trans H; rw [hy136]; with_reducible exact H2_) | (have H2_ := (Option.bind_some _ _).symm.trans H; with_reducible exact H2_) | with_reducible exact H | (rw [hy136]; exact H) | exact H
        have Ny136 := Aside0.mk hy136
        clear hy136
        replace H := Option.bind_eq_some_iff.mp H
        obtain ⟨t139, A60, H⟩ := H
        replace H : (flow_Reach.l0 k y136 t139 (t139.length : Int) 0) = some (r1, r2) := H
        have A6 := Aside0.mk A60
        clear A60
        have H' := Aside0.mk H
        clear H
        go_enter Try.func49, Try.ntmps49
        go_wp2_with (first | ((with_reducible refine gate_dst (N := 1) rfl ?_); refine box_event ?hg (N := 1) ?hd (cs := #[.slice A0_0 l0_0.length c0_0, .int .i64 a0_1, .slice A0_2 l0_2.length c0_2]) (t := 25) ?hr ?_; (case hd => rfl); (case hg => rfl); (case hr => first | (go_simp; done) | (go_simp; rfl)); intro gb134 hg w7 hbox hb; have n0_ := Aside0.mk (below_step (by repeat (first | (with_reducible first | exact HB.out | apply below_alloc | apply pw_below_drewN | apply below_drew1) | exact HB.out)) hb); have n1_ := Aside0.mk (hbox); have n2_ := Aside0.mk ((by rw [hg]; exact (below_size (by repeat (first | (with_reducible first | exact HB.out | apply below_alloc | apply pw_below_drewN | apply below_drew1) | exact HB.out))) : w.heap.size ≤ gb134)); have n3_ := Aside0.mk ((by rw [hg]; exact (below_size (by repeat (first | (with_reducible first | exact HB.out | apply below_alloc | apply pw_below_drewN | apply below_drew1) | exact HB.out))) : w.heap.size ≤ gb134)); clear HB; have HB := n0_; have BK134 := n1_; have GW134 := n2_; have GE134 := n3_; clear n0_ n1_ n2_ n3_; clear hb hbox hg; have hcz8_0 : w7.cell? ⟨gb134, 0, none⟩ = some (.slice A0_0 l0_0.length c0_0) := (blk_cell BK134.out 0).trans rfl; have hcz8_1 : w7.cell? ⟨gb134, 1, none⟩ = some (.int .i64 a0_1) := (blk_cell BK134.out 1).trans rfl; have hcz8_2 : w7.cell? ⟨gb134, 2, none⟩ = some (.slice A0_2 l0_2.length c0_2) := (blk_cell BK134.out 2).trans rfl; have hfz8_0 := blk_frozen BK134.out 0; have hfz8_1 := blk_frozen BK134.out 1; have hfz8_2 := blk_frozen BK134.out 2) | ((with_reducible refine gate_callee (f := 84) rfl ?_); refine goesL_ (some 9) rfl rfl Try.func84 (by kernel_rfl) rfl #[.agg #[.slice A0_0 l0_0.length c0_0, .int .i64 a0_1, .slice A0_2 l0_2.length c0_2]] rfl (by (try simp only [List.map_toArray, List.map_cons, List.map_nil]); first | done | rfl | (simp only [List.length_drop, List.length_take]; rfl)) ?_; (with_reducible refine (flow_check.calls (fun k_ => k_ < w.heap.size) _ _ l0_0 a0_1 (fun k_ => k_ < w.heap.size) _ _ l0_2 t135 _ ?side1 ?side2 A2.out).mono ?_); (case side1 => exact Kd.V_mk HC0_0.out (Kd.F_below (Kd.C_F Kd.heap_bool HR0_0.out) (by repeat (first | (with_reducible first | exact HB.out | apply below_alloc | apply pw_below_drewN | apply below_drew1 | refine below_set ?_ GE134.out) | exact HB.out)))); (case side2 => exact Kd.V_mk HC0_2.out (Kd.F_below (Kd.C_F k36_heap HR0_2.out) (by repeat (first | (with_reducible first | exact HB.out | apply below_alloc | apply pw_below_drewN | apply below_drew1 | refine below_set ?_ GE134.out) | exact HB.out)))); rintro e w9 ⟨rfl, hb⟩; refine ⟨_, rfl, ?_⟩; have n0_ := Aside0.mk (blk_below (g := gb134) (o := .cells #[.slice A0_0 l0_0.length c0_0, .int .i64 a0_1, .slice A0_2 l0_2.length c0_2] 25 (0, 0)) (by (with_reducible repeat (first | refine blk_drewN ?_ _ | refine blk_drew ?_ | refine blk_alloc ?_ _)); exact BK134.out) hb); have n1_ := Aside0.mk (below_step (by repeat (first | (with_reducible first | exact HB.out | apply below_alloc | apply pw_below_drewN | apply below_drew1 | refine below_set ?_ GE134.out) | exact HB.out)) hb); clear BK134; clear HB; have BK134 := n0_; have HB := n1_; clear n0_ n1_; (try clear hb); (try clear hb2); (try clear hk); (try clear hi); have hcz10_0 : w9.cell? ⟨gb134, 0, none⟩ = some (.slice A0_0 l0_0.length c0_0) := (blk_cell BK134.out 0).trans rfl; have hcz10_1 : w9.cell? ⟨gb134, 1, none⟩ = some (.int .i64 a0_1) := (blk_cell BK134.out 1).trans rfl; have hcz10_2 : w9.cell? ⟨gb134, 2, none⟩ = some (.slice A0_2 l0_2.length c0_2) := (blk_cell BK134.out 2).trans rfl; have hfz10_0 := blk_frozen BK134.out 0; have hfz10_1 := blk_frozen BK134.out 1; have hfz10_2 := blk_frozen BK134.out 2) | ((with_reducible refine gate_dst (N := 16) rfl ?_); refine Kd.R_make Kd.bool _ 4 rfl (N := 16) rfl 22 _ _ rfl (l0_2.length : Int) rfl rfl Try.underlying22 (.bool false) 1 info4 rfl (by decide) (by omega) false (ok := fun _ => True) (okp := fun _ => True) rfl (fun _ hk => hk) trivial (of_decide_eq_true (by first | (with_reducible assumption) | assumption)) (Nat.le_trans (Nat.mul_le_mul_right _ (of_decide_eq_true (by first | (with_reducible assumption) | assumption) : (l0_2.length : Int).toNat ≤ 281474976710656)) (by omega)) (Below.refl _ _) (Nat.le_refl _) ?_; intro v137 w11 ho12 hb hg_ hnew_; clear hg_ hnew_; (first | rw [← Ny136.out] at ho12 | (simp only [Int.reduceToNat] at ho12; rw [← Ny136.out] at ho12)); have n0_ := Aside0.mk (Kd.R_lower ho12 (below_size (by repeat (first | (with_reducible first | exact HB.out | apply below_alloc | apply pw_below_drewN | apply below_drew1 | refine below_set ?_ GE134.out) | exact HB.out)))); have n1_ := Aside0.mk (blk_below (g := gb134) (o := .cells #[.slice A0_0 l0_0.length c0_0, .int .i64 a0_1, .slice A0_2 l0_2.length c0_2] 25 (0, 0)) (by (with_reducible repeat (first | refine blk_drewN ?_ _ | refine blk_drew ?_ | refine blk_alloc ?_ _)); exact BK134.out) hb); have n2_ := Aside0.mk (below_step (by repeat (first | (with_reducible first | exact HB.out | apply below_alloc | apply pw_below_drewN | apply below_drew1 | refine below_set ?_ GE134.out) | exact HB.out)) hb); clear BK134; clear HB; have HO138 := n0_; have BK134 := n1_; have HB := n2_; clear n0_ n1_ n2_; clear hb ho12; have hcz13_0 : w11.cell? ⟨gb134, 0, none⟩ = some (.slice A0_0 l0_0.length c0_0) := (blk_cell BK134.out 0).trans rfl; have hcz13_1 : w11.cell? ⟨gb134, 1, none⟩ = some (.int .i64 a0_1) := (blk_cell BK134.out 1).trans rfl; have hcz13_2 : w11.cell? ⟨gb134, 2, none⟩ = some (.slice A0_2 l0_2.length c0_2) := (blk_cell BK134.out 2).trans rfl; have hfz13_0 := blk_frozen BK134.out 0; have hfz13_1 := blk_frozen BK134.out 1; have hfz13_2 := blk_frozen BK134.out 2) | ((with_reducible refine gate_callee (f := 85) rfl ?_); refine goesL_ (some 18) rfl rfl Try.func85 (by kernel_rfl) rfl #[.agg #[.slice A0_0 l0_0.length c0_0, .int .i64 a0_1, .slice A0_2 l0_2.length c0_2]] rfl (by (try simp only [List.map_toArray, List.map_cons, List.map_nil]); first | done | rfl | (simp only [List.length_drop, List.length_take]; rfl)) ?_; (with_reducible refine (paths_Order.calls _ _ l0_0 a0_1 _ _ l0_2 t139 _ ?side1 ?side2 ?side3 ?side4 A6.out).mono ?_); (case side1 => repeat (first | exact (Kd.C_below HR0_0.out HB.out) | (with_reducible refine Kd.C_alloc ?_ _) | (with_reducible refine Kd.C_drewN ?_ _) | (with_reducible refine Kd.C_drew ?_))); (case side2 => exact HC0_0.out); (case side3 => repeat (first | exact (Kd.C_below HR0_2.out HB.out) | (with_reducible refine Kd.C_alloc ?_ _) | (with_reducible refine Kd.C_drewN ?_ _) | (with_reducible refine Kd.C_drew ?_))); (case side4 => exact HC0_2.out); rintro e w14 ⟨v140, rfl, ho0, hb⟩; refine ⟨_, rfl, ?_⟩; have n0_ := Aside0.mk (Kd.R_below (by (with_reducible repeat (first | apply Kd.R_alloc | apply Kd.R_drewN | apply Kd.R_drew)); exact HO138.out) hb); have n1_ := Aside0.mk (Kd.R_lower ho0 (below_size (by repeat (first | (with_reducible first | exact HB.out | apply below_alloc | apply pw_below_drewN | apply below_drew1 | refine below_set ?_ GE134.out) | exact HB.out)))); have n2_ := Aside0.mk (blk_below (g := gb134) (o := .cells #[.slice A0_0 l0_0.length c0_0, .int .i64 a0_1, .slice A0_2 l0_2.length c0_2] 25 (0, 0)) (by (with_reducible repeat (first | refine blk_drewN ?_ _ | refine blk_drew ?_ | refine blk_alloc ?_ _)); exact BK134.out) hb); have n3_ := Aside0.mk (below_step (by repeat (first | (with_reducible first | exact HB.out | apply below_alloc | apply pw_below_drewN | apply below_drew1 | refine below_set ?_ GE134.out) | exact HB.out)) hb); clear HO138; clear BK134; clear HB; have HO138 := n0_; have HO141 := n1_; have BK134 := n2_; have HB := n3_; clear n0_ n1_ n2_ n3_; (try clear hb); (try clear hb2); (try clear hk); (try clear hi); (try clear ho0); obtain ⟨Ao15, co15, eo15⟩ := Kd.R_slice HO141.out; subst eo15))
        go_loopg [20] k (fun kq v20 w' => ∃ (x5_1 : List Bool) (x20_1 : Int), v20 = .int .i64 x20_1 ∧ Aside0 (flow_Reach.l0 kq x5_1 t139 (t139.length : Int) x20_1 = some (r1, r2)) ∧ Aside0 (kq ≤ k) ∧ Aside0 (Kd.R Kd.bool 4 w' w.heap.size (fun _ => True) v137 x5_1) ∧ Aside0 (Kd.R (Kd.int .i64) 3 w' w.heap.size (fun _ => True) (.slice Ao15 t139.length co15) t139) ∧ Aside0 (w'.heap[gb134]? = some (.cells #[(.slice A0_0 l0_0.length c0_0), .int .i64 a0_1, (.slice A0_2 l0_2.length c0_2)] 25 (0, 0))) ∧ Aside0 (Below w.heap.size w w'))
        case atStart => exact ⟨(y136), (0), (by first | rfl | (simp; done) | (simp [*]; done)), H', ⟨Nat.le_refl _⟩, ⟨by (with_reducible repeat (first | apply Kd.R_alloc | apply Kd.R_drewN | apply Kd.R_drew)); exact HO138.out⟩, ⟨by (with_reducible repeat (first | apply Kd.R_alloc | apply Kd.R_drewN | apply Kd.R_drew)); exact HO141.out⟩, ⟨by (with_reducible repeat (first | refine blk_drewN ?_ _ | refine blk_drew ?_ | refine blk_alloc ?_ _)); exact BK134.out⟩, ⟨by repeat (first | (with_reducible first | exact HB.out | apply below_alloc | apply pw_below_drewN | apply below_drew1 | refine below_set ?_ GE134.out) | exact HB.out)⟩⟩
        case round =>
          clear H'
          try clear p2
          try clear c3
          try clear c3b0
          try clear c3b1
          try clear c4
          try clear c4b0
          try clear c4b1
          try clear c5
          try clear c5b0
          try clear c5b1
          try clear c8
          try clear hcz10_0
          try clear hcz10_1
          try clear hcz10_2
          try clear hcz13_0
          try clear hcz13_1
          try clear hcz13_2
          try clear hcz8_0
          try clear hcz8_1
          try clear hcz8_2
          try clear hfz10_0
          try clear hfz10_1
          try clear hfz10_2
          try clear hfz13_0
          try clear hfz13_1
          try clear hfz13_2
          try clear hfz8_0
          try clear hfz8_1
          try clear hfz8_2
          obtain ⟨x5_1, x20_1, rfl, HA, HK1, HO_5, HO_18, BK134, HB⟩ := hrel
          cases gk with
          | zero => exact absurd HA.out (by simp [flow_Reach.l0])
          | succ k1 =>
            have H := HA.out
            clear HA
            simp only [flow_Reach.l0] at H
            by_cases c16 : x20_1 < (t139.length : Int)
            · rw [if_pos c16] at H
              have c16b0 : decide (x20_1 < (t139.length : Int)) = true := decide_eq_true c16
              clear c16
              by_cases c17 : 0 ≤ x20_1
              · rw [if_pos c17] at H
                have c17b0 : decide (0 ≤ x20_1) = true := decide_eq_true c17
                clear c17
                by_cases c18 : x20_1 < (t139.length : Int)
                · rw [if_pos c18] at H
                  have c18b0 : decide (x20_1 < (t139.length : Int)) = true := decide_eq_true c18
                  clear c18
                  by_cases c19 : 0 ≤ (rd t139 x20_1)
                  · rw [if_pos c19] at H
                    have c19b0 : decide (0 ≤ (rd t139 x20_1)) = true := decide_eq_true c19
                    clear c19
                    by_cases c20 : (rd t139 x20_1) < (x5_1.length : Int)
                    · rw [if_pos c20] at H
                      have c20b0 : decide ((rd t139 x20_1) < (x5_1.length : Int)) = true := decide_eq_true c20
                      clear c20
                      obtain ⟨y143, hy143⟩ : ∃ y_ : List Bool, y_ = (x5_1.set ((rd t139 x20_1) : Int).toNat true) := ⟨_, rfl⟩
                      replace H : (flow_Reach.l0 k1 y143 t139 (t139.length : Int) (wrap64 (x20_1 + 1))) = some (r1, r2) := by first | (rw [hy143]; with_reducible exact H) | (have H2_ := (Option.bind_some _ _).symm.trans H; rw [hy143]; with_reducible exact H2_) | (have H2_ := (Option.bind_some _ _).symm.trans H; with_reducible exact H2_) | with_reducible exact H | (rw [hy143]; exact H) | exact H
                      have Ny143 := Aside0.mk hy143
                      clear hy143
                      have H' := Aside0.mk H
                      clear H
                      have p142 : 0 ≤ (x20_1 : Int) := of_decide_eq_true (by first | (with_reducible assumption) | assumption)
                      have q142 : x20_1 < (t139.length : Int) := of_decide_eq_true (by first | (with_reducible assumption) | assumption)
                      obtain ⟨ad142, e142, hx142_0⟩ := Kd.at_int (Kd.R_reads' HO_18.out).2.2 x20_1 p142 q142
                      cases e142
                      replace p142 := eq_true p142
                      replace q142 := eq_true q142
                      have p21 : 0 ≤ ((rd t139 x20_1) : Int) := of_decide_eq_true (by first | (with_reducible assumption) | assumption)
                      have q21 : ((rd t139 x20_1) : Int) < ((x5_1.length : Int) : Int) := of_decide_eq_true (by first | (with_reducible assumption) | assumption)
                      obtain ⟨go21, co21, eo21, gb21, gl21, cl21, HG21⟩ := Kd.R_form HO_5.out (by omega)
                      (first | cases eo21 | (injection eo21 with ea_ en_ ec_; (first | subst ea_ | (injection ea_ with ea_; subst ea_)); subst ec_; clear en_))
                      have GB21 := Aside0.mk gb21
                      have GG21 := Aside0.mk HG21
                      clear gb21 gl21 HG21
                      obtain ⟨hx21_0, hf21_0⟩ := Kd.R_celln false HO_5.out ((rd t139 x20_1) : Int) p21 q21
                      replace p21 := eq_true p21
                      replace q21 := eq_true q21
                      have HP22 := Kd.R_putg HO_5.out ((rd t139 x20_1) : Int) true
                      go_wp2_with (first | ((with_reducible refine gate_store (t := 4) (p := 26) rfl ?_); refine store_event (t := 4) (p := 26) (v := ?vo_w23) (w1 := (wr.setCell ⟨go21, ((rd t139 x20_1) : Int).toNat, none⟩ (.bool true))) ?hg ?ho ?hn ?hr ?_; (case ho => rfl); (case hg => rfl); (case hn => rfl); (case hr => first | (go_simp; done) | (go_simp; rfl)); intro w23 hw; have hg : wr.grownBy w23 (some go21) := (by rw [hw]; exact HP22.2); have hp_ : Kd.R Kd.bool 4 w23 w.heap.size (fun _ => True) (.slice (some ⟨go21, 0, none⟩) x5_1.length co21) y143 := (by rw [hw, Ny143.out]; exact HP22.1); clear HP22; have n0_ := Aside0.mk (hp_); have n1_ := Aside0.mk (Kd.R_over' (v := (.slice (some ⟨go21, 0, none⟩) x5_1.length co21)) (by (with_reducible repeat (first | apply Kd.R_alloc | apply Kd.R_drewN | apply Kd.R_drew)); exact HO_18.out) (Kd.R_typed HO_5.out) (by decide) hg); have n2_ := Aside0.mk (blk_grown (g := gb134) (o := .cells #[.slice A0_0 l0_0.length c0_0, .int .i64 a0_1, .slice A0_2 l0_2.length c0_2] 25 (0, 0)) (by (with_reducible repeat (first | refine blk_drewN ?_ _ | refine blk_drew ?_ | refine blk_alloc ?_ _)); exact BK134.out) hg (Kd.R_ne HO_5.out BK134.out (by decide))); have n3_ := Aside0.mk ((by rw [hw]; exact below_set (HB.out) GB21.out : Below w.heap.size w w23)); clear HO_5; clear HO_18; clear BK134; clear HB; have HO_5 := n0_; have HO_18 := n1_; have BK134 := n2_; have HB := n3_; clear n0_ n1_ n2_ n3_; clear hg hw hp_))
                      go_roundg k1
                      case measure => have := HK1.out; omega
                      case rel => exact ⟨(y143), (wrap64 (x20_1 + 1)), (by first | rfl | (simp; done) | (simp [*]; done)), H', ⟨by have := HK1.out; omega⟩, ⟨by (with_reducible repeat (first | apply Kd.R_alloc | apply Kd.R_drewN | apply Kd.R_drew)); exact HO_5.out⟩, ⟨by (with_reducible repeat (first | apply Kd.R_alloc | apply Kd.R_drewN | apply Kd.R_drew)); exact HO_18.out⟩, ⟨by (with_reducible repeat (first | refine blk_drewN ?_ _ | refine blk_drew ?_ | refine blk_alloc ?_ _)); exact BK134.out⟩, ⟨by repeat (first | (with_reducible first | exact HB.out | apply below_alloc | apply pw_below_drewN | apply below_drew1 | refine below_set ?_ GE134.out) | exact HB.out)⟩⟩
                    · rw [if_neg c20] at H
                      exact absurd H (by simp)
                  · rw [if_neg c19] at H
                    exact absurd H (by simp)
                · rw [if_neg c18] at H
                  exact absurd H (by simp)
              · rw [if_neg c17] at H
                exact absurd H (by simp)
            · rw [if_neg c16] at H
              have c16b0 : decide (x20_1 < (t139.length : Int)) = false := decide_eq_false c16
              clear c16
              simp only [Option.some.injEq, Prod.mk.injEq] at H
              obtain ⟨rfl, rfl⟩ := H
              go_wp2
              go_ret2
              exact ⟨_, by first | rfl | (simp [errW_none, errW_some] <;> rfl) | (simp [*, errW_none, errW_some] <;> rfl), by (with_reducible repeat (first | apply Kd.R_alloc | apply Kd.R_drewN | apply Kd.R_drew)); exact HO_5.out, by repeat (first | (with_reducible first | exact HB.out | apply below_alloc | apply pw_below_drewN | apply below_drew1 | refine below_set ?_ GE134.out) | exact HB.out)⟩
      · rw [if_neg c5] at H
        exact absurd H (by simp)
    · rw [if_neg c4] at H
      exact absurd H (by simp)
  · rw [if_neg c3] at H
    have c3b0 : (t135 == 0) = false := beq_eq_false_iff_ne.mpr c3
    have c3b1 : (t135 != 0) = true := bne_iff_ne.mpr c3
    simp only [Option.some.injEq, Prod.mk.injEq] at H
    obtain ⟨rfl, rfl⟩ := H
    go_enter Try.func49, Try.ntmps49
    go_wp2_with (first | ((with_reducible refine gate_dst (N := 1) rfl ?_); refine box_event ?hg (N := 1) ?hd (cs := #[.slice A0_0 l0_0.length c0_0, .int .i64 a0_1, .slice A0_2 l0_2.length c0_2]) (t := 25) ?hr ?_; (case hd => rfl); (case hg => rfl); (case hr => first | (go_simp; done) | (go_simp; rfl)); intro gb134 hg w24 hbox hb; have n0_ := Aside0.mk (below_step (by repeat (first | (with_reducible first | exact HB.out | apply below_alloc | apply pw_below_drewN | apply below_drew1) | exact HB.out)) hb); have n1_ := Aside0.mk (hbox); have n2_ := Aside0.mk ((by rw [hg]; exact (below_size (by repeat (first | (with_reducible first | exact HB.out | apply below_alloc | apply pw_below_drewN | apply below_drew1) | exact HB.out))) : w.heap.size ≤ gb134)); have n3_ := Aside0.mk ((by rw [hg]; exact (below_size (by repeat (first | (with_reducible first | exact HB.out | apply below_alloc | apply pw_below_drewN | apply below_drew1) | exact HB.out))) : w.heap.size ≤ gb134)); clear HB; have HB := n0_; have BK134 := n1_; have GW134 := n2_; have GE134 := n3_; clear n0_ n1_ n2_ n3_; clear hb hbox hg; have hcz25_0 : w24.cell? ⟨gb134, 0, none⟩ = some (.slice A0_0 l0_0.length c0_0) := (blk_cell BK134.out 0).trans rfl; have hcz25_1 : w24.cell? ⟨gb134, 1, none⟩ = some (.int .i64 a0_1) := (blk_cell BK134.out 1).trans rfl; have hcz25_2 : w24.cell? ⟨gb134, 2, none⟩ = some (.slice A0_2 l0_2.length c0_2) := (blk_cell BK134.out 2).trans rfl; have hfz25_0 := blk_frozen BK134.out 0; have hfz25_1 := blk_frozen BK134.out 1; have hfz25_2 := blk_frozen BK134.out 2) | ((with_reducible refine gate_callee (f := 84) rfl ?_); refine goesL_ (some 9) rfl rfl Try.func84 (by kernel_rfl) rfl #[.agg #[.slice A0_0 l0_0.length c0_0, .int .i64 a0_1, .slice A0_2 l0_2.length c0_2]] rfl (by (try simp only [List.map_toArray, List.map_cons, List.map_nil]); first | done | rfl | (simp only [List.length_drop, List.length_take]; rfl)) ?_; (with_reducible refine (flow_check.calls (fun k_ => k_ < w.heap.size) _ _ l0_0 a0_1 (fun k_ => k_ < w.heap.size) _ _ l0_2 t135 _ ?side1 ?side2 A2.out).mono ?_); (case side1 => exact Kd.V_mk HC0_0.out (Kd.F_below (Kd.C_F Kd.heap_bool HR0_0.out) (by repeat (first | (with_reducible first | exact HB.out | apply below_alloc | apply pw_below_drewN | apply below_drew1 | refine below_set ?_ GE134.out) | exact HB.out)))); (case side2 => exact Kd.V_mk HC0_2.out (Kd.F_below (Kd.C_F k36_heap HR0_2.out) (by repeat (first | (with_reducible first | exact HB.out | apply below_alloc | apply pw_below_drewN | apply below_drew1 | refine below_set ?_ GE134.out) | exact HB.out)))); rintro e w26 ⟨rfl, hb⟩; refine ⟨_, rfl, ?_⟩; have n0_ := Aside0.mk (blk_below (g := gb134) (o := .cells #[.slice A0_0 l0_0.length c0_0, .int .i64 a0_1, .slice A0_2 l0_2.length c0_2] 25 (0, 0)) (by (with_reducible repeat (first | refine blk_drewN ?_ _ | refine blk_drew ?_ | refine blk_alloc ?_ _)); exact BK134.out) hb); have n1_ := Aside0.mk (below_step (by repeat (first | (with_reducible first | exact HB.out | apply below_alloc | apply pw_below_drewN | apply below_drew1 | refine below_set ?_ GE134.out) | exact HB.out)) hb); clear BK134; clear HB; have BK134 := n0_; have HB := n1_; clear n0_ n1_; (try clear hb); (try clear hb2); (try clear hk); (try clear hi)))
    go_ret2
    exact ⟨_, by first | rfl | (simp [errW_none, errW_some] <;> rfl) | (simp [*, errW_none, errW_some] <;> rfl), by first | exact Kd.R_nil _ _ _ _ _ | exact Kd.N_nil _ _ _ _ _ | exact Kd.V_nil _ _ _ _ _ | exact Kd.Q_nil _ _ _ _ _ | exact Kd.S_nil _ _ _ _ _, by repeat (first | (with_reducible first | exact HB.out | apply below_alloc | apply pw_below_drewN | apply below_drew1 | refine below_set ?_ GE134.out) | exact HB.out)⟩
end Go.Proofs.Ytjmeignhhheckaa.Q
namespace Go.Proofs.Ytjmeignhhheckaa.Q
open Go.RowKit Go.Proofs.YtjmeignhhheckaaW.PrintWords Go.Proofs.YtjmeignhhheckaaW.PrintLast Go.Proofs.YtjmeignhhheckaaW.PrintMore
attribute [local go_sem] max2_int min2_int max_two min_two max_three min_three max_four min_four   -- for this text's walks alone
set_option linter.unusedVariables false
set_option linter.unusedSimpArgs false
def live_check.f (k : Nat) (l0_0 : List Bool) (a0_1 : Int) (l0_2 : List (S36)) : Option (Int) := (flow_Reach.f k l0_0 a0_1 l0_2).bind fun bt145 => (some bt145.2)
theorem live_check.mono : ∀ a0 a1 a2 k, LeO (live_check.f k a0 a1 a2) (live_check.f (k + 1) a0 a1 a2) := by
  intro a0 a1 a2 k
  unfold live_check.f
  repeat' first
      | (with_reducible exact flow_Reach.mono _ _ _ _)
      | (with_reducible exact LeO.refl _)
      | (with_reducible exact LeO.none _)
      | (with_reducible refine LeO.ite ?_ ?_)
      | (with_reducible refine LeO.bind ?_ (fun _ => ?_))
      | exact flow_Reach.mono _ _ _ _
      | exact LeO.none _
      | refine LeO.ite ?_ ?_
      | refine LeO.bind ?_ (fun _ => ?_)
set_option maxHeartbeats 8000000 in
set_option maxRecDepth 100000 in
theorem live_check.calls (k : Nat) (A0_0 : Option Addr) (c0_0 : Nat) (l0_0 : List Bool) (a0_1 : Int) (A0_2 : Option Addr) (c0_2 : Nat) (l0_2 : List (S36)) (r : Int) (w : World) (hr0_0 : Kd.C Kd.bool w A0_0 l0_0.length l0_0) (hc0_0 : l0_0.length ≤ c0_0) (hr0_2 : Kd.C k36 w A0_2 l0_2.length l0_2) (hc0_2 : l0_2.length ≤ c0_2) (h : live_check.f k l0_0 a0_1 l0_2 = some r) :
    Calls Try.prog 56 #[.agg #[.slice A0_0 l0_0.length c0_0, .int .i64 a0_1, .slice A0_2 l0_2.length c0_2]] w fun e w' => e = .returned (.int .i64 r) ∧ Below w.heap.size w w' := by
  have hu25 := Try.underlying25
  have HR0_0 := Aside0.mk hr0_0
  have HC0_0 := Aside0.mk hc0_0
  clear hr0_0 hc0_0
  have HR0_2 := Aside0.mk hr0_2
  have HC0_2 := Aside0.mk hc0_2
  clear hr0_2 hc0_2
  have HB := Aside0.mk (Below.refl w.heap.size w)
  have H : ((flow_Reach.f k l0_0 a0_1 l0_2).bind fun bt145 => (some bt145.2)) = some r := h
  clear h
  replace H := Option.bind_eq_some_iff.mp H
  obtain ⟨⟨t145, t148⟩, A20, H⟩ := H
  replace H : (some t148) = some r := H
  have A2 := Aside0.mk A20
  clear A20
  obtain rfl := Option.some.inj H
  go_enter Try.func56, Try.ntmps56
  go_wp2_with (first | ((with_reducible refine gate_dst (N := 1) rfl ?_); refine box_event ?hg (N := 1) ?hd (cs := #[.slice A0_0 l0_0.length c0_0, .int .i64 a0_1, .slice A0_2 l0_2.length c0_2]) (t := 25) ?hr ?_; (case hd => rfl); (case hg => rfl); (case hr => first | (go_simp; done) | (go_simp; rfl)); intro gb144 hg w3 hbox hb; have n0_ := Aside0.mk (below_step (by repeat (first | (with_reducible first | exact HB.out | apply below_alloc | apply pw_below_drewN | apply below_drew1) | exact HB.out)) hb); have n1_ := Aside0.mk (hbox); have n2_ := Aside0.mk ((by rw [hg]; exact (below_size (by repeat (first | (with_reducible first | exact HB.out | apply below_alloc | apply pw_below_drewN | apply below_drew1) | exact HB.out))) : w.heap.size ≤ gb144)); have n3_ := Aside0.mk ((by rw [hg]; exact (below_size (by repeat (first | (with_reducible first | exact HB.out | apply below_alloc | apply pw_below_drewN | apply below_drew1) | exact HB.out))) : w.heap.size ≤ gb144)); clear HB; have HB := n0_; have BK144 := n1_; have GW144 := n2_; have GE144 := n3_; clear n0_ n1_ n2_ n3_; clear hb hbox hg; have hcz4_0 : w3.cell? ⟨gb144, 0, none⟩ = some (.slice A0_0 l0_0.length c0_0) := (blk_cell BK144.out 0).trans rfl; have hcz4_1 : w3.cell? ⟨gb144, 1, none⟩ = some (.int .i64 a0_1) := (blk_cell BK144.out 1).trans rfl; have hcz4_2 : w3.cell? ⟨gb144, 2, none⟩ = some (.slice A0_2 l0_2.length c0_2) := (blk_cell BK144.out 2).trans rfl; have hfz4_0 := blk_frozen BK144.out 0; have hfz4_1 := blk_frozen BK144.out 1; have hfz4_2 := blk_frozen BK144.out 2) | ((with_reducible refine gate_callee (f := 49) rfl ?_); refine goesL_ (some 7) rfl rfl Try.func49 (by kernel_rfl) rfl #[.agg #[.slice A0_0 l0_0.length c0_0, .int .i64 a0_1, .slice A0_2 l0_2.length c0_2]] rfl (by (try simp only [List.map_toArray, List.map_cons, List.map_nil]); first | done | rfl | (simp only [List.length_drop, List.length_take]; rfl)) ?_; (with_reducible refine (flow_Reach.calls k _ _ l0_0 a0_1 _ _ l0_2 t145 t148 _ ?side1 ?side2 ?side3 ?side4 A2.out).mono ?_); (case side1 => repeat (first | exact (Kd.C_below HR0_0.out HB.out) | (with_reducible refine Kd.C_alloc ?_ _) | (with_reducible refine Kd.C_drewN ?_ _) | (with_reducible refine Kd.C_drew ?_))); (case side2 => exact HC0_0.out); (case side3 => repeat (first | exact (Kd.C_below HR0_2.out HB.out) | (with_reducible refine Kd.C_alloc ?_ _) | (with_reducible refine Kd.C_drewN ?_ _) | (with_reducible refine Kd.C_drew ?_))); (case side4 => exact HC0_2.out); rintro e w5 ⟨v146, rfl, ho0, hb⟩; refine ⟨_, rfl, ?_⟩; have n0_ := Aside0.mk (Kd.R_lower ho0 (below_size (by repeat (first | (with_reducible first | exact HB.out | apply below_alloc | apply pw_below_drewN | apply below_drew1 | refine below_set ?_ GE144.out) | exact HB.out)))); have n1_ := Aside0.mk (blk_below (g := gb144) (o := .cells #[.slice A0_0 l0_0.length c0_0, .int .i64 a0_1, .slice A0_2 l0_2.length c0_2] 25 (0, 0)) (by (with_reducible repeat (first | refine blk_drewN ?_ _ | refine blk_drew ?_ | refine blk_alloc ?_ _)); exact BK144.out) hb); have n2_ := Aside0.mk (below_step (by repeat (first | (with_reducible first | exact HB.out | apply below_alloc | apply pw_below_drewN | apply below_drew1 | refine below_set ?_ GE144.out) | exact HB.out)) hb); clear BK144; clear HB; have HO147 := n0_; have BK144 := n1_; have HB := n2_; clear n0_ n1_ n2_; (try clear hb); (try clear hb2); (try clear hk); (try clear hi); (try clear ho0)))
  go_ret
  exact ⟨by first | rfl | (simp [errW_none, errW_some] <;> rfl) | (simp [*, errW_none, errW_some] <;> rfl), by repeat (first | (with_reducible first | exact HB.out | apply below_alloc | apply pw_below_drewN | apply below_drew1 | refine below_set ?_ GE144.out) | exact HB.out)⟩
end Go.Proofs.Ytjmeignhhheckaa.Q
namespace Go.Proofs.Ytjmeignhhheckaa.H
open Go.RowKit Go.Maps Go.Proofs.YtjmeignhhheckaaW.PrintWords Go.Proofs.YtjmeignhhheckaaW.PrintLast Go.Proofs.Ytjmeignhhheckaa.Q
set_option maxRecDepth 100000
def regIn (n : Nat) (x : S46) : Prop := ((chgS x).2 = true → 0 ≤ (chgS x).1 ∧ (chgS x).1 < n) ∧ ∀ r ∈ asksS x, 0 ≤ r ∧ r < n
theorem isNum_in {xs : List Bool} {r : Int} (h : isNum xs r = true) : 0 ≤ r ∧ r < xs.length := by
  unfold isNum at h; rw [Bool.and_eq_true] at h; exact inN_iff h.1
theorem isRef_in {xs : List Bool} {r : Int} (h : isRef xs r = true) : 0 ≤ r ∧ r < xs.length := by
  unfold isRef at h; rw [Bool.and_eq_true] at h; exact inN_iff h.1
theorem mem3 {n : Nat} {a b c : Int} (ha : 0 ≤ a ∧ a < n) (hb : 0 ≤ b ∧ b < n) (hc : 0 ≤ c ∧ c < n) : ∀ r ∈ [a, b, c], 0 ≤ r ∧ r < n := by
  intro r hr
  simp only [List.mem_cons, List.not_mem_nil, or_false] at hr
  rcases hr with rfl | rfl | rfl
  · exact ha
  · exact hb
  · exact hc
theorem mem2 {n : Nat} {a b : Int} (ha : 0 ≤ a ∧ a < n) (hb : 0 ≤ b ∧ b < n) : ∀ r ∈ [a, b], 0 ≤ r ∧ r < n := by
  intro r hr
  simp only [List.mem_cons, List.not_mem_nil, or_false] at hr
  rcases hr with rfl | rfl
  · exact ha
  · exact hb
theorem mem1 {n : Nat} {a : Int} (ha : 0 ≤ a ∧ a < n) : ∀ r ∈ [a], 0 ≤ r ∧ r < n := by
  intro r hr
  simp only [List.mem_cons, List.not_mem_nil, or_false] at hr
  rcases hr with rfl
  exact ha
theorem mem0 {n : Nat} : ∀ r ∈ ([] : List Int), 0 ≤ r ∧ r < n := by
  intro r hr
  cases hr
theorem ins_regs {xs : List Bool} {sites words : Int} {met : List Int} {x : S46} (h : insB xs sites words met x = true) : regIn xs.length x := by
  unfold insB at h
  by_cases h00 : (emptyB (shp x.f0).1 || !zerosB x) = true
  · rw [if_pos h00] at h; cases h
  rw [if_neg h00] at h
  clear h00
  unfold regIn chgS asksS
  by_cases k1 : x.f0 = 1
  · simp only [k1, if_true, Bool.or_eq_true, Bool.and_eq_true] at h
    simp [k1]
    rcases h with h | h
    · exact isNum_in h
    · exact isRef_in h.1
  by_cases k2 : x.f0 = 2
  · simp [k2] at h
    simp [k2]
    rcases h with h | h
    · exact ⟨isNum_in h.1, isNum_in h.2⟩
    · exact ⟨isRef_in h.1, isRef_in h.2⟩
  by_cases k3 : x.f0 = 3
  · simp [k3] at h
    obtain ⟨⟨_, ha⟩, hb⟩ := h
    have hbc : (0 ≤ x.f3 ∧ x.f3 < xs.length) ∧ (0 ≤ x.f4 ∧ x.f4 < xs.length) := by
      rcases hb with h | h
      · exact ⟨isRef_in h.1.2, isRef_in h.2⟩
      · exact ⟨isNum_in h.1, isNum_in h.2⟩
    refine ⟨fun _ => by simpa [k3] using isNum_in ha, ?_⟩
    simp only [k3]
    exact mem2 hbc.1 hbc.2
  by_cases k4 : x.f0 = 4
  · simp [k4] at h
    simp [k4]
    exact isRef_in h
  by_cases k5 : x.f0 = 5
  · simp [k5] at h
    simp [k5]
    exact isNum_in h.1.1
  by_cases k6 : x.f0 = 6
  · simp [k6] at h
    simp [k6]
    exact isRef_in h.1.1
  by_cases k7 : x.f0 = 7
  · simp [k7] at h
    simp [k7]
    exact isRef_in h.1.1.1.1.1
  by_cases k12 : x.f0 = 12
  · simp [k12] at h
    simp [k12]
    exact isNum_in h
  by_cases k13 : x.f0 = 13
  · simp [k13]
  by_cases k14 : x.f0 = 14
  · simp [k14]
  simp only [k1, k2, k3, k4, k5, k6, k7, k12, k13, k14, if_false, Bool.and_eq_true, Bool.or_eq_true] at h
  obtain ⟨⟨⟨⟨ha, hb⟩, hc⟩, _⟩, _⟩ := h
  have ha := inN_iff ha
  have hb := isRef_in hb
  have hc : 0 ≤ x.f4 → 0 ≤ x.f4 ∧ x.f4 < xs.length := by
    intro h0
    rcases hc with h | h
    · have : x.f4 = -1 := by simpa using h
      omega
    · exact isNum_in h
  refine ⟨fun hh => ?_, ?_⟩
  · split at hh
    · rename_i h1
      rw [if_pos h1]
      exact ha
    · cases hh
  · simp only [k1, k2, k3, k4, k5, k6, k7, k12, k13, k14, if_false, false_or, or_false]
    split
    · split
      · rename_i h0
        exact mem2 hb (hc h0)
      · exact mem1 hb
    · split
      · split
        · rename_i h0
          exact mem3 ha hb (hc h0)
        · exact mem2 ha hb
      · exact mem0
theorem scan_regs {xs : List Bool} {sites words : Int} : ∀ (l : List S46) (k : Nat) (met m2 : List Int), insScan xs sites words l k met = .inr m2 → ∀ x ∈ l, regIn xs.length x := by
  intro l
  induction l with
  | nil => intro k met m2 _ x hx; cases hx
  | cons i l ih =>
    intro k met m2 h x hx
    simp only [insScan] at h
    by_cases hi : insB xs sites words met i = true
    · rw [if_pos hi] at h
      rcases List.mem_cons.1 hx with rfl | hx
      · exact ins_regs hi
      · exact ih _ _ _ h x hx
    · rw [if_neg hi] at h
      cases h
theorem blk_regs {xs : List Bool} {sites words : Int} {nb : Nat} : ∀ (bs : List S36) (n : Nat) (met : List Int), blkScan xs sites words nb bs n met = none → ∀ b ∈ bs, ∀ x ∈ b.f0, regIn xs.length x := by
  intro bs
  induction bs with
  | nil => intro n met _ b hb; cases hb
  | cons x bs ih =>
    intro n met h b hb
    cases hi : insScan xs sites words x.f0 0 met with
    | inl k => rw [blk_inl hi] at h; cases h
    | inr m2 =>
      rw [blk_last hi] at h
      cases hl : lastB xs nb x with
      | false => rw [hl] at h; simp at h
      | true =>
        rw [hl] at h
        rcases List.mem_cons.1 hb with rfl | hb
        · exact scan_regs _ _ _ _ hi
        · exact ih _ _ (by simpa using h) b hb
theorem last_reg {xs : List Bool} {nb : Nat} {b : S36} (h : lastB xs nb b = true) (h2 : b.f1 = 2) : 0 ≤ b.f2 ∧ b.f2 < xs.length := by
  unfold lastB at h
  simp [h2] at h
  exact isNum_in h.2
structure GOk (xs : List Bool) (bs : List S36) : Prop where
  nx : xs.length ≤ 1024
  ne : 0 < bs.length
  nb : bs.length ≤ 4096
  tot : insTotal bs ≤ 8192
  T : okT bs
  regs : ∀ b ∈ bs, ∀ x ∈ b.f0, regIn xs.length x
  br : ∀ b ∈ bs, b.f1 = 2 → 0 ≤ b.f2 ∧ b.f2 < xs.length
  la : ∀ b ∈ bs, lastB xs bs.length b = true
theorem gok {xs : List Bool} {sites words : Int} {bs : List S36} (h : (checkS words [⟨xs, sites, bs⟩]).2.2.2 = 0) : GOk xs bs := by
  unfold checkS at h
  split at h
  · cases h
  split at h
  · cases h
  unfold goS at h
  dsimp only at h
  by_cases hc : countsS xs sites bs = 0
  · rw [if_neg (by rw [hc]; decide)] at h
    by_cases hf : (faultS xs sites words bs).2.2 = true
    · rw [if_pos hf] at h
      cases h
    · have hb : blkScan xs sites words bs.length bs 0 [] = none := by
        cases hq : blkScan xs sites words bs.length bs 0 [] with
        | none => rfl
        | some p => rw [fault_some hq] at hf; exact absurd rfl hf
      have hcs : xs.length ≤ 1024 ∧ bs.length ≤ 4096 ∧ sites ≤ 8192 ∧ insTotal bs ≤ 8192 ∧ 0 < bs.length := by
        unfold countsS at hc
        by_cases h : 1024 < xs.length ∨ 4096 < bs.length ∨ 8192 < sites ∨ 8192 < insTotal bs
        · rw [if_pos h] at hc; cases hc
        · rw [if_neg h] at hc
          by_cases h2 : bs.length = 0 ∨ sites < 0
          · rw [if_pos h2] at hc; cases hc
          · omega
      have hl := blk_none bs 0 [] hb
      exact ⟨hcs.1, hcs.2.2.2.2, hcs.2.1, hcs.2.2.2.1, okT_of hb, blk_regs bs 0 [] hb, fun b hm h2 => last_reg (hl b hm) h2, hl⟩
  · rw [if_pos hc] at h
    exact absurd h hc
theorem GOk.blk {xs : List Bool} {bs : List S36} (h : GOk xs bs) : ∀ x ∈ bs, blkOk bs.length x := fun b hb =>
  ⟨h.T b hb, fun h2 => by have := h.br b hb h2; have := h.nx; omega, fun x hx => by
    have := h.regs b hb x hx
    have hn := h.nx
    exact ⟨fun hc => by have := this.1 hc; omega, fun r hr => by have := this.2 r hr; omega⟩⟩
/-- live's and flow's refusal -/
def gE (xs : List Bool) (sites : Int) (bs : List S36) : Int := if (checkS 65536 [⟨xs, sites, bs⟩]).2.2.2 = 0 then 0 else 14
theorem gE_gok {xs : List Bool} {sites : Int} {bs : List S36} (h : gE xs sites bs = 0) : GOk xs bs := by
  unfold gE at h
  by_cases hc : (checkS 65536 [⟨xs, sites, bs⟩]).2.2.2 = 0
  · exact gok hc
  · rw [if_neg hc] at h; cases h
theorem check_f (xs : List Bool) (sites : Int) (bs : List S36) (hs : smallG bs) : flow_check.f xs sites bs = some (gE xs sites bs) := by
  unfold flow_check.f ir_Check.f gE
  rw [if_pos (by intro g hg; rw [List.mem_singleton] at hg; rw [hg]; exact hs), Option.bind_some]
  split <;> rfl
theorem order_rng (bs : List S36) (hT : okT bs) : ∀ (k : Nat) (st : List S166) (met : List Bool) (out r : List Int), (∀ s ∈ st, 0 ≤ s.f0 ∧ s.f0 < bs.length ∧ 0 ≤ s.f1) → (∀ o ∈ out, 0 ≤ o ∧ o < bs.length) → orderGo bs k st met out = some r → (∀ o ∈ r, 0 ≤ o ∧ o < bs.length) ∧ r.length ≤ out.length + k := by
  intro k
  induction k with
  | zero =>
    intro st met out r hst ho h
    cases st with
    | nil => simp only [orderGo, Option.some.injEq] at h; subst h; exact ⟨ho, by omega⟩
    | cons s st => simp [orderGo] at h
  | succ k ih =>
    intro st met out r hst ho h
    cases st with
    | nil => simp only [orderGo, Option.some.injEq] at h; subst h; exact ⟨ho, by omega⟩
    | cons s st =>
      have hs := hst s (by simp)
      simp only [orderGo] at h
      split at h
      · rename_i hlt
        have hto := hT _ (getD_mem (d := z36) (by omega : s.f0.toNat < bs.length)) (rd (nexts (rd_T36 bs s.f0)) s.f1) (getD_mem (show s.f1.toNat < (nexts (rd_T36 bs s.f0)).length from by omega))
        split at h
        · have := ih _ _ _ _ (fun u hu => by
            rcases List.mem_cons.1 hu with rfl | hu
            · exact ⟨hs.1, hs.2.1, by dsimp only; omega⟩
            · exact hst u (by simp [hu])) ho h
          exact ⟨this.1, by omega⟩
        · have := ih _ _ _ _ (fun u hu => by
            rcases List.mem_cons.1 hu with rfl | hu
            · exact ⟨hto.1, hto.2, Int.le_refl _⟩
            · rcases List.mem_cons.1 hu with rfl | hu
              · exact ⟨hs.1, hs.2.1, by dsimp only; omega⟩
              · exact hst u (by simp [hu])) ho h
          exact ⟨this.1, by omega⟩
      · have := ih _ _ _ _ (fun u hu => hst u (by simp [hu])) (fun o h2 => by
          rcases List.mem_append.1 h2 with h2 | h2
          · exact ho o h2
          · rw [List.mem_singleton] at h2; subst h2; exact ⟨hs.1, hs.2.1⟩) h
        refine ⟨this.1, ?_⟩
        have h3 := this.2
        rw [List.length_append] at h3
        simp only [List.length_singleton] at h3
        omega
theorem orderS_rng (bs : List S36) (hT : okT bs) (hne : 0 < bs.length) : (∀ o ∈ orderS bs, 0 ≤ o ∧ o < bs.length) ∧ (orderS bs).length ≤ 4 * bs.length + 4 := by
  obtain ⟨r, hr, he⟩ := orderS_eq bs hT hne
  have := order_rng bs hT _ _ _ _ _ (by simp; omega) (by simp) hr
  rw [← he]
  exact ⟨fun o ho => this.1 o (by simpa using ho), by simpa using this.2⟩
def reachS (bs : List S36) : List Bool := (orderS bs).foldl (fun x o => x.set o.toNat true) (List.replicate bs.length false)
theorem reach_l0 (n : Nat) (ord : List Int) (ho : ∀ o ∈ ord, 0 ≤ o ∧ o < n) (hl : ord.length < 1000000) : ∀ (d k i : Nat) (x : List Bool), x.length = n → i + d = ord.length → d < k → flow_Reach.l0 k x ord (ord.length : Int) (i : Int) = some ((ord.drop i).foldl (fun x o => x.set o.toNat true) x, 0) := by
  intro d
  induction d with
  | zero =>
    intro k i x hx hi hk
    obtain ⟨k, rfl⟩ : ∃ m, k = m + 1 := ⟨k - 1, by omega⟩
    simp only [flow_Reach.l0]
    rw [if_neg (by omega), List.drop_of_length_le (by omega)]
    rfl
  | succ d ih =>
    intro k i x hx hi hk
    obtain ⟨k, rfl⟩ : ∃ m, k = m + 1 := ⟨k - 1, by omega⟩
    have hm := ho (rd ord (i : Int)) (by unfold rd; exact getD_mem (by omega))
    simp only [flow_Reach.l0]
    rw [if_pos (by omega), if_pos (by omega), if_pos (by omega), if_pos hm.1, if_pos (by omega)]
    rw [show Go.RowKit.wrap64 ((i : Int) + 1) = ((i + 1 : Nat) : Int) from by unfold Go.RowKit.wrap64; omega]
    rw [ih k (i + 1) _ (by simp [hx]) (by omega) (by omega)]
    rw [drop_at ord i 0 (by omega)]
    simp only [List.foldl_cons]
    rfl
theorem reach_f (xs : List Bool) (sites : Int) (bs : List S36) (hs : smallG bs) : ∃ k, flow_Reach.f k xs sites bs = some (if gE xs sites bs = 0 then reachS bs else [], gE xs sites bs) := by
  by_cases h : gE xs sites bs = 0
  · have G := gE_gok h
    have hr := orderS_rng bs G.T G.ne
    refine ⟨(orderS bs).length + 1, ?_⟩
    unfold flow_Reach.f
    rw [check_f xs sites bs hs, Option.bind_some, h, if_pos rfl, if_pos (by omega), if_pos (by have := G.nb; omega)]
    unfold paths_Order.f
    rw [if_pos ⟨G.ne, by have := G.nb; omega, G.T⟩, Option.bind_some]
    have := reach_l0 bs.length (orderS bs) hr.1 (by have := G.nb; omega) (orderS bs).length ((orderS bs).length + 1) 0 (List.replicate bs.length false) (by simp) (by omega) (by omega)
    rw [List.drop_zero] at this
    rw [if_pos rfl, Int.toNat_natCast]
    exact this
  · refine ⟨0, ?_⟩
    unfold flow_Reach.f
    rw [check_f xs sites bs hs, Option.bind_some, if_neg h, if_neg h]
theorem check_calls {A0 : Option Addr} {c0 : Nat} {l0 : List Bool} {a1 : Int} {A2 : Option Addr} {c2 : Nat} {l2 : List S36} {w : World} (h0 : Kd.C Kd.bool w A0 l0.length l0) (hc0 : l0.length ≤ c0) (h2 : Kd.C k36 w A2 l2.length l2) (hc2 : l2.length ≤ c2) (hs : smallG l2) :
    Calls Try.prog 56 #[.agg #[.slice A0 l0.length c0, .int .i64 a1, .slice A2 l2.length c2]] w fun e w' => e = .returned (.int .i64 (gE l0 a1 l2)) ∧ Below w.heap.size w w' := by
  obtain ⟨k, hk⟩ := reach_f l0 a1 l2 hs
  exact live_check.calls k A0 c0 l0 a1 A2 c2 l2 _ w h0 hc0 h2 hc2 (by unfold live_check.f; rw [hk]; rfl)
end Go.Proofs.Ytjmeignhhheckaa.H
namespace Go.Proofs.Ytjmeignhhheckaa.Q
open Go.RowKit Go.Proofs.YtjmeignhhheckaaW.PrintWords Go.Proofs.YtjmeignhhheckaaW.PrintLast Go.Proofs.YtjmeignhhheckaaW.PrintMore
attribute [local go_sem] max2_int min2_int max_two min_two max_three min_three max_four min_four   -- for this text's walks alone
set_option linter.unusedVariables false
set_option linter.unusedSimpArgs false
def live_there.f (l0_0 : List Bool) (a0_1 : Int) (l0_2 : List (S36)) (a1_0 : Int) (a1_1 : Int) : Option (Bool) := if a1_0 ≥ 0 then (if a1_0 < (l0_2.length : Int) then (if a1_1 ≥ 0 then (if 0 ≤ a1_0 then (some (decide (a1_1 ≤ (((rd_T36 l0_2 a1_0).f0).length : Int)))) else (none)) else (some false)) else (some false)) else (some false)
set_option maxHeartbeats 8000000 in
set_option maxRecDepth 100000 in
theorem live_there.calls (A0_0 : Option Addr) (c0_0 : Nat) (l0_0 : List Bool) (a0_1 : Int) (A0_2 : Option Addr) (c0_2 : Nat) (l0_2 : List (S36)) (a1_0 : Int) (a1_1 : Int) (r : Bool) (w : World) (hr0_0 : Kd.C Kd.bool w A0_0 l0_0.length l0_0) (hc0_0 : l0_0.length ≤ c0_0) (hr0_2 : Kd.C k36 w A0_2 l0_2.length l0_2) (hc0_2 : l0_2.length ≤ c0_2) (h : live_there.f l0_0 a0_1 l0_2 a1_0 a1_1 = some r) :
    Calls Try.prog 59 #[.agg #[.slice A0_0 l0_0.length c0_0, .int .i64 a0_1, .slice A0_2 l0_2.length c0_2], .agg #[.int .i64 a1_0, .int .i64 a1_1]] w fun e w' => e = .returned (.bool r) ∧ Below w.heap.size w w' := by
  have hu25 := Try.underlying25
  have hu41 := Try.underlying41
  have HR0_0 := Aside0.mk hr0_0
  have HC0_0 := Aside0.mk hc0_0
  clear hr0_0 hc0_0
  have HR0_2 := Aside0.mk hr0_2
  have HC0_2 := Aside0.mk hc0_2
  clear hr0_2 hc0_2
  have HB := Aside0.mk (Below.refl w.heap.size w)
  have H : (if a1_0 ≥ 0 then (if a1_0 < (l0_2.length : Int) then (if a1_1 ≥ 0 then (if 0 ≤ a1_0 then (some (decide (a1_1 ≤ (((rd_T36 l0_2 a1_0).f0).length : Int)))) else (none)) else (some false)) else (some false)) else (some false)) = some r := h
  clear h
  by_cases c3 : a1_0 ≥ 0
  · rw [if_pos c3] at H
    have c3b0 : decide (0 ≤ a1_0) = true := decide_eq_true c3
    clear c3
    by_cases c4 : a1_0 < (l0_2.length : Int)
    · rw [if_pos c4] at H
      have c4b0 : decide (a1_0 < (l0_2.length : Int)) = true := decide_eq_true c4
      clear c4
      by_cases c5 : a1_1 ≥ 0
      · rw [if_pos c5] at H
        have c5b0 : decide (0 ≤ a1_1) = true := decide_eq_true c5
        clear c5
        by_cases c6 : 0 ≤ a1_0
        · rw [if_pos c6] at H
          have c6b0 : decide (0 ≤ a1_0) = true := decide_eq_true c6
          clear c6
          obtain rfl := Option.some.inj H
          go_enter Try.func59, Try.ntmps59
          go_wp2_with (first | ((with_reducible refine gate_dst (N := 2) rfl ?_); (try (refine gate_guard (by rfl) ?_; dsimp only)); refine box_event ?hg (N := 2) ?hd (cs := #[.slice A0_0 l0_0.length c0_0, .int .i64 a0_1, .slice A0_2 l0_2.length c0_2]) (t := 25) ?hr ?_; (case hd => rfl); (case hg => rfl); (case hr => first | (go_simp; done) | (go_simp; rfl)); intro gb101 hg w7 hbox hb; have n0_ := Aside0.mk (below_step (by repeat (first | (with_reducible first | exact HB.out | apply below_alloc | apply pw_below_drewN | apply below_drew1) | exact HB.out)) hb); have n1_ := Aside0.mk (hbox); have n2_ := Aside0.mk ((by rw [hg]; exact (below_size (by repeat (first | (with_reducible first | exact HB.out | apply below_alloc | apply pw_below_drewN | apply below_drew1) | exact HB.out))) : w.heap.size ≤ gb101)); have n3_ := Aside0.mk ((by rw [hg]; exact (below_size (by repeat (first | (with_reducible first | exact HB.out | apply below_alloc | apply pw_below_drewN | apply below_drew1) | exact HB.out))) : w.heap.size ≤ gb101)); clear HB; have HB := n0_; have BK101 := n1_; have GW101 := n2_; have GE101 := n3_; clear n0_ n1_ n2_ n3_; clear hb hbox hg) | ((with_reducible refine gate_dst (N := 3) rfl ?_); (try (refine gate_guard (by rfl) ?_; dsimp only)); refine box_event ?hg (N := 3) ?hd (cs := #[.int .i64 a1_0, .int .i64 a1_1]) (t := 41) ?hr ?_; (case hd => rfl); (case hg => rfl); (case hr => first | (go_simp; done) | (go_simp; rfl)); intro gb102 hg w8 hbox hb; have n0_ := Aside0.mk (blk_below (g := gb101) (o := .cells #[.slice A0_0 l0_0.length c0_0, .int .i64 a0_1, .slice A0_2 l0_2.length c0_2] 25 (0, 0)) (by (with_reducible repeat (first | refine blk_drewN ?_ _ | refine blk_drew ?_ | refine blk_alloc ?_ _)); exact BK101.out) hb); have n1_ := Aside0.mk (below_step (by repeat (first | (with_reducible first | exact HB.out | apply below_alloc | apply pw_below_drewN | apply below_drew1 | refine below_set ?_ GE101.out) | exact HB.out)) hb); have n2_ := Aside0.mk (hbox); have n3_ := Aside0.mk ((by rw [hg]; exact (below_size (by repeat (first | (with_reducible first | exact HB.out | apply below_alloc | apply pw_below_drewN | apply below_drew1 | refine below_set ?_ GE101.out) | exact HB.out))) : w.heap.size ≤ gb102)); have n4_ := Aside0.mk ((by rw [hg]; exact (below_size (by repeat (first | (with_reducible first | exact HB.out | apply below_alloc | apply pw_below_drewN | apply below_drew1 | refine below_set ?_ GE101.out) | exact HB.out))) : w.heap.size ≤ gb102)); have n5_ := Aside0.mk ((by rw [hg]; exact Nat.ne_of_lt (blk_lt (g := gb101) (o := .cells #[.slice A0_0 l0_0.length c0_0, .int .i64 a0_1, .slice A0_2 l0_2.length c0_2] 25 (0, 0)) (by (with_reducible repeat (first | refine blk_drewN ?_ _ | refine blk_drew ?_ | refine blk_alloc ?_ _)); exact BK101.out)) : gb101 ≠ gb102)); have n6_ := Aside0.mk ((by rw [hg]; exact Nat.ne_of_gt (blk_lt (g := gb101) (o := .cells #[.slice A0_0 l0_0.length c0_0, .int .i64 a0_1, .slice A0_2 l0_2.length c0_2] 25 (0, 0)) (by (with_reducible repeat (first | refine blk_drewN ?_ _ | refine blk_drew ?_ | refine blk_alloc ?_ _)); exact BK101.out)) : gb102 ≠ gb101)); clear BK101; clear HB; have BK101 := n0_; have HB := n1_; have BK102 := n2_; have GW102 := n3_; have GE102 := n4_; have NB101_102 := n5_; have NB102_101 := n6_; clear n0_ n1_ n2_ n3_ n4_ n5_ n6_; clear hb hbox hg; have hnb9 := NB102_101.out; have hnc9 := NB101_102.out; have hcz10_0 : w8.cell? ⟨gb102, 0, none⟩ = some (.int .i64 a1_0) := (blk_cell BK102.out 0).trans rfl; have hcz10_1 : w8.cell? ⟨gb102, 1, none⟩ = some (.int .i64 a1_1) := (blk_cell BK102.out 1).trans rfl; have hfz10_0 := blk_frozen BK102.out 0; have hfz10_1 := blk_frozen BK102.out 1; have hcz11_0 : w8.cell? ⟨gb101, 0, none⟩ = some (.slice A0_0 l0_0.length c0_0) := (blk_cell BK101.out 0).trans rfl; have hcz11_1 : w8.cell? ⟨gb101, 1, none⟩ = some (.int .i64 a0_1) := (blk_cell BK101.out 1).trans rfl; have hcz11_2 : w8.cell? ⟨gb101, 2, none⟩ = some (.slice A0_2 l0_2.length c0_2) := (blk_cell BK101.out 2).trans rfl; have hfz11_0 := blk_frozen BK101.out 0; have hfz11_1 := blk_frozen BK101.out 1; have hfz11_2 := blk_frozen BK101.out 2; have p103 : 0 ≤ (a1_0 : Int) := of_decide_eq_true (by first | (with_reducible assumption) | assumption); have q103 : a1_0 < (l0_2.length : Int) := of_decide_eq_true (by first | (with_reducible assumption) | assumption); obtain ⟨ad103, A103_0, c103_0, e103, hx103_0, hx103_1, hx103_2, hx103_3, hx103_4, hl103_0, hi103_0⟩ := at_T36 HR0_2.out a1_0 p103 q103; cases e103; replace hx103_0 := (HB.out.cell (World.block_lt_of_cell? w _ hx103_0)).trans hx103_0; replace hx103_1 := (HB.out.cell (World.block_lt_of_cell? w _ hx103_1)).trans hx103_1; replace hx103_2 := (HB.out.cell (World.block_lt_of_cell? w _ hx103_2)).trans hx103_2; replace hx103_3 := (HB.out.cell (World.block_lt_of_cell? w _ hx103_3)).trans hx103_3; replace hx103_4 := (HB.out.cell (World.block_lt_of_cell? w _ hx103_4)).trans hx103_4; have HR103_0 := Aside0.mk hi103_0; have HC103_0 := Aside0.mk hl103_0; clear hi103_0 hl103_0; replace p103 := eq_true p103; replace q103 := eq_true q103))
          repeat (go_quiet (first | ((with_reducible refine gate_dst (N := 2) rfl ?_); (try (refine gate_guard (by rfl) ?_; dsimp only)); refine box_event ?hg (N := 2) ?hd (cs := #[.slice A0_0 l0_0.length c0_0, .int .i64 a0_1, .slice A0_2 l0_2.length c0_2]) (t := 25) ?hr ?_; (case hd => rfl); (case hg => rfl); (case hr => first | (go_simp; done) | (go_simp; rfl)); intro gb101 hg w7 hbox hb; have n0_ := Aside0.mk (below_step (by repeat (first | (with_reducible first | exact HB.out | apply below_alloc | apply pw_below_drewN | apply below_drew1) | exact HB.out)) hb); have n1_ := Aside0.mk (hbox); have n2_ := Aside0.mk ((by rw [hg]; exact (below_size (by repeat (first | (with_reducible first | exact HB.out | apply below_alloc | apply pw_below_drewN | apply below_drew1) | exact HB.out))) : w.heap.size ≤ gb101)); have n3_ := Aside0.mk ((by rw [hg]; exact (below_size (by repeat (first | (with_reducible first | exact HB.out | apply below_alloc | apply pw_below_drewN | apply below_drew1) | exact HB.out))) : w.heap.size ≤ gb101)); clear HB; have HB := n0_; have BK101 := n1_; have GW101 := n2_; have GE101 := n3_; clear n0_ n1_ n2_ n3_; clear hb hbox hg) | ((with_reducible refine gate_dst (N := 3) rfl ?_); (try (refine gate_guard (by rfl) ?_; dsimp only)); refine box_event ?hg (N := 3) ?hd (cs := #[.int .i64 a1_0, .int .i64 a1_1]) (t := 41) ?hr ?_; (case hd => rfl); (case hg => rfl); (case hr => first | (go_simp; done) | (go_simp; rfl)); intro gb102 hg w8 hbox hb; have n0_ := Aside0.mk (blk_below (g := gb101) (o := .cells #[.slice A0_0 l0_0.length c0_0, .int .i64 a0_1, .slice A0_2 l0_2.length c0_2] 25 (0, 0)) (by (with_reducible repeat (first | refine blk_drewN ?_ _ | refine blk_drew ?_ | refine blk_alloc ?_ _)); exact BK101.out) hb); have n1_ := Aside0.mk (below_step (by repeat (first | (with_reducible first | exact HB.out | apply below_alloc | apply pw_below_drewN | apply below_drew1 | refine below_set ?_ GE101.out) | exact HB.out)) hb); have n2_ := Aside0.mk (hbox); have n3_ := Aside0.mk ((by rw [hg]; exact (below_size (by repeat (first | (with_reducible first | exact HB.out | apply below_alloc | apply pw_below_drewN | apply below_drew1 | refine below_set ?_ GE101.out) | exact HB.out))) : w.heap.size ≤ gb102)); have n4_ := Aside0.mk ((by rw [hg]; exact (below_size (by repeat (first | (with_reducible first | exact HB.out | apply below_alloc | apply pw_below_drewN | apply below_drew1 | refine below_set ?_ GE101.out) | exact HB.out))) : w.heap.size ≤ gb102)); have n5_ := Aside0.mk ((by rw [hg]; exact Nat.ne_of_lt (blk_lt (g := gb101) (o := .cells #[.slice A0_0 l0_0.length c0_0, .int .i64 a0_1, .slice A0_2 l0_2.length c0_2] 25 (0, 0)) (by (with_reducible repeat (first | refine blk_drewN ?_ _ | refine blk_drew ?_ | refine blk_alloc ?_ _)); exact BK101.out)) : gb101 ≠ gb102)); have n6_ := Aside0.mk ((by rw [hg]; exact Nat.ne_of_gt (blk_lt (g := gb101) (o := .cells #[.slice A0_0 l0_0.length c0_0, .int .i64 a0_1, .slice A0_2 l0_2.length c0_2] 25 (0, 0)) (by (with_reducible repeat (first | refine blk_drewN ?_ _ | refine blk_drew ?_ | refine blk_alloc ?_ _)); exact BK101.out)) : gb102 ≠ gb101)); clear BK101; clear HB; have BK101 := n0_; have HB := n1_; have BK102 := n2_; have GW102 := n3_; have GE102 := n4_; have NB101_102 := n5_; have NB102_101 := n6_; clear n0_ n1_ n2_ n3_ n4_ n5_ n6_; clear hb hbox hg; have hnb9 := NB102_101.out; have hnc9 := NB101_102.out; have hcz10_0 : w8.cell? ⟨gb102, 0, none⟩ = some (.int .i64 a1_0) := (blk_cell BK102.out 0).trans rfl; have hcz10_1 : w8.cell? ⟨gb102, 1, none⟩ = some (.int .i64 a1_1) := (blk_cell BK102.out 1).trans rfl; have hfz10_0 := blk_frozen BK102.out 0; have hfz10_1 := blk_frozen BK102.out 1; have hcz11_0 : w8.cell? ⟨gb101, 0, none⟩ = some (.slice A0_0 l0_0.length c0_0) := (blk_cell BK101.out 0).trans rfl; have hcz11_1 : w8.cell? ⟨gb101, 1, none⟩ = some (.int .i64 a0_1) := (blk_cell BK101.out 1).trans rfl; have hcz11_2 : w8.cell? ⟨gb101, 2, none⟩ = some (.slice A0_2 l0_2.length c0_2) := (blk_cell BK101.out 2).trans rfl; have hfz11_0 := blk_frozen BK101.out 0; have hfz11_1 := blk_frozen BK101.out 1; have hfz11_2 := blk_frozen BK101.out 2; have p103 : 0 ≤ (a1_0 : Int) := of_decide_eq_true (by first | (with_reducible assumption) | assumption); have q103 : a1_0 < (l0_2.length : Int) := of_decide_eq_true (by first | (with_reducible assumption) | assumption); obtain ⟨ad103, A103_0, c103_0, e103, hx103_0, hx103_1, hx103_2, hx103_3, hx103_4, hl103_0, hi103_0⟩ := at_T36 HR0_2.out a1_0 p103 q103; cases e103; replace hx103_0 := (HB.out.cell (World.block_lt_of_cell? w _ hx103_0)).trans hx103_0; replace hx103_1 := (HB.out.cell (World.block_lt_of_cell? w _ hx103_1)).trans hx103_1; replace hx103_2 := (HB.out.cell (World.block_lt_of_cell? w _ hx103_2)).trans hx103_2; replace hx103_3 := (HB.out.cell (World.block_lt_of_cell? w _ hx103_3)).trans hx103_3; replace hx103_4 := (HB.out.cell (World.block_lt_of_cell? w _ hx103_4)).trans hx103_4; have HR103_0 := Aside0.mk hi103_0; have HC103_0 := Aside0.mk hl103_0; clear hi103_0 hl103_0; replace p103 := eq_true p103; replace q103 := eq_true q103)); try go_wp2_with (first | ((with_reducible refine gate_dst (N := 2) rfl ?_); (try (refine gate_guard (by rfl) ?_; dsimp only)); refine box_event ?hg (N := 2) ?hd (cs := #[.slice A0_0 l0_0.length c0_0, .int .i64 a0_1, .slice A0_2 l0_2.length c0_2]) (t := 25) ?hr ?_; (case hd => rfl); (case hg => rfl); (case hr => first | (go_simp; done) | (go_simp; rfl)); intro gb101 hg w7 hbox hb; have n0_ := Aside0.mk (below_step (by repeat (first | (with_reducible first | exact HB.out | apply below_alloc | apply pw_below_drewN | apply below_drew1) | exact HB.out)) hb); have n1_ := Aside0.mk (hbox); have n2_ := Aside0.mk ((by rw [hg]; exact (below_size (by repeat (first | (with_reducible first | exact HB.out | apply below_alloc | apply pw_below_drewN | apply below_drew1) | exact HB.out))) : w.heap.size ≤ gb101)); have n3_ := Aside0.mk ((by rw [hg]; exact (below_size (by repeat (first | (with_reducible first | exact HB.out | apply below_alloc | apply pw_below_drewN | apply below_drew1) | exact HB.out))) : w.heap.size ≤ gb101)); clear HB; have HB := n0_; have BK101 := n1_; have GW101 := n2_; have GE101 := n3_; clear n0_ n1_ n2_ n3_; clear hb hbox hg) | ((with_reducible refine gate_dst (N := 3) rfl ?_); (try (refine gate_guard (by rfl) ?_; dsimp only)); refine box_event ?hg (N := 3) ?hd (cs := #[.int .i64 a1_0, .int .i64 a1_1]) (t := 41) ?hr ?_; (case hd => rfl); (case hg => rfl); (case hr => first | (go_simp; done) | (go_simp; rfl)); intro gb102 hg w8 hbox hb; have n0_ := Aside0.mk (blk_below (g := gb101) (o := .cells #[.slice A0_0 l0_0.length c0_0, .int .i64 a0_1, .slice A0_2 l0_2.length c0_2] 25 (0, 0)) (by (with_reducible repeat (first | refine blk_drewN ?_ _ | refine blk_drew ?_ | refine blk_alloc ?_ _)); exact BK101.out) hb); have n1_ := Aside0.mk (below_step (by repeat (first | (with_reducible first | exact HB.out | apply below_alloc | apply pw_below_drewN | apply below_drew1 | refine below_set ?_ GE101.out) | exact HB.out)) hb); have n2_ := Aside0.mk (hbox); have n3_ := Aside0.mk ((by rw [hg]; exact (below_size (by repeat (first | (with_reducible first | exact HB.out | apply below_alloc | apply pw_below_drewN | apply below_drew1 | refine below_set ?_ GE101.out) | exact HB.out))) : w.heap.size ≤ gb102)); have n4_ := Aside0.mk ((by rw [hg]; exact (below_size (by repeat (first | (with_reducible first | exact HB.out | apply below_alloc | apply pw_below_drewN | apply below_drew1 | refine below_set ?_ GE101.out) | exact HB.out))) : w.heap.size ≤ gb102)); have n5_ := Aside0.mk ((by rw [hg]; exact Nat.ne_of_lt (blk_lt (g := gb101) (o := .cells #[.slice A0_0 l0_0.length c0_0, .int .i64 a0_1, .slice A0_2 l0_2.length c0_2] 25 (0, 0)) (by (with_reducible repeat (first | refine blk_drewN ?_ _ | refine blk_drew ?_ | refine blk_alloc ?_ _)); exact BK101.out)) : gb101 ≠ gb102)); have n6_ := Aside0.mk ((by rw [hg]; exact Nat.ne_of_gt (blk_lt (g := gb101) (o := .cells #[.slice A0_0 l0_0.length c0_0, .int .i64 a0_1, .slice A0_2 l0_2.length c0_2] 25 (0, 0)) (by (with_reducible repeat (first | refine blk_drewN ?_ _ | refine blk_drew ?_ | refine blk_alloc ?_ _)); exact BK101.out)) : gb102 ≠ gb101)); clear BK101; clear HB; have BK101 := n0_; have HB := n1_; have BK102 := n2_; have GW102 := n3_; have GE102 := n4_; have NB101_102 := n5_; have NB102_101 := n6_; clear n0_ n1_ n2_ n3_ n4_ n5_ n6_; clear hb hbox hg; have hnb9 := NB102_101.out; have hnc9 := NB101_102.out; have hcz10_0 : w8.cell? ⟨gb102, 0, none⟩ = some (.int .i64 a1_0) := (blk_cell BK102.out 0).trans rfl; have hcz10_1 : w8.cell? ⟨gb102, 1, none⟩ = some (.int .i64 a1_1) := (blk_cell BK102.out 1).trans rfl; have hfz10_0 := blk_frozen BK102.out 0; have hfz10_1 := blk_frozen BK102.out 1; have hcz11_0 : w8.cell? ⟨gb101, 0, none⟩ = some (.slice A0_0 l0_0.length c0_0) := (blk_cell BK101.out 0).trans rfl; have hcz11_1 : w8.cell? ⟨gb101, 1, none⟩ = some (.int .i64 a0_1) := (blk_cell BK101.out 1).trans rfl; have hcz11_2 : w8.cell? ⟨gb101, 2, none⟩ = some (.slice A0_2 l0_2.length c0_2) := (blk_cell BK101.out 2).trans rfl; have hfz11_0 := blk_frozen BK101.out 0; have hfz11_1 := blk_frozen BK101.out 1; have hfz11_2 := blk_frozen BK101.out 2; have p103 : 0 ≤ (a1_0 : Int) := of_decide_eq_true (by first | (with_reducible assumption) | assumption); have q103 : a1_0 < (l0_2.length : Int) := of_decide_eq_true (by first | (with_reducible assumption) | assumption); obtain ⟨ad103, A103_0, c103_0, e103, hx103_0, hx103_1, hx103_2, hx103_3, hx103_4, hl103_0, hi103_0⟩ := at_T36 HR0_2.out a1_0 p103 q103; cases e103; replace hx103_0 := (HB.out.cell (World.block_lt_of_cell? w _ hx103_0)).trans hx103_0; replace hx103_1 := (HB.out.cell (World.block_lt_of_cell? w _ hx103_1)).trans hx103_1; replace hx103_2 := (HB.out.cell (World.block_lt_of_cell? w _ hx103_2)).trans hx103_2; replace hx103_3 := (HB.out.cell (World.block_lt_of_cell? w _ hx103_3)).trans hx103_3; replace hx103_4 := (HB.out.cell (World.block_lt_of_cell? w _ hx103_4)).trans hx103_4; have HR103_0 := Aside0.mk hi103_0; have HC103_0 := Aside0.mk hl103_0; clear hi103_0 hl103_0; replace p103 := eq_true p103; replace q103 := eq_true q103)))
          go_ret
          exact ⟨by first | rfl | (simp [errW_none, errW_some] <;> rfl) | (simp [*, errW_none, errW_some] <;> rfl), by repeat (first | (with_reducible first | exact HB.out | apply below_alloc | apply pw_below_drewN | apply below_drew1 | refine below_set ?_ GE101.out | refine below_set ?_ GE102.out) | exact HB.out)⟩
        · rw [if_neg c6] at H
          exact absurd H (by simp)
      · rw [if_neg c5] at H
        have c5b0 : decide (0 ≤ a1_1) = false := decide_eq_false c5
        clear c5
        obtain rfl := Option.some.inj H
        go_enter Try.func59, Try.ntmps59
        go_wp2_with (first | ((with_reducible refine gate_dst (N := 2) rfl ?_); (try (refine gate_guard (by rfl) ?_; dsimp only)); refine box_event ?hg (N := 2) ?hd (cs := #[.slice A0_0 l0_0.length c0_0, .int .i64 a0_1, .slice A0_2 l0_2.length c0_2]) (t := 25) ?hr ?_; (case hd => rfl); (case hg => rfl); (case hr => first | (go_simp; done) | (go_simp; rfl)); intro gb101 hg w12 hbox hb; have n0_ := Aside0.mk (below_step (by repeat (first | (with_reducible first | exact HB.out | apply below_alloc | apply pw_below_drewN | apply below_drew1) | exact HB.out)) hb); have n1_ := Aside0.mk (hbox); have n2_ := Aside0.mk ((by rw [hg]; exact (below_size (by repeat (first | (with_reducible first | exact HB.out | apply below_alloc | apply pw_below_drewN | apply below_drew1) | exact HB.out))) : w.heap.size ≤ gb101)); have n3_ := Aside0.mk ((by rw [hg]; exact (below_size (by repeat (first | (with_reducible first | exact HB.out | apply below_alloc | apply pw_below_drewN | apply below_drew1) | exact HB.out))) : w.heap.size ≤ gb101)); clear HB; have HB := n0_; have BK101 := n1_; have GW101 := n2_; have GE101 := n3_; clear n0_ n1_ n2_ n3_; clear hb hbox hg) | ((with_reducible refine gate_dst (N := 3) rfl ?_); (try (refine gate_guard (by rfl) ?_; dsimp only)); refine box_event ?hg (N := 3) ?hd (cs := #[.int .i64 a1_0, .int .i64 a1_1]) (t := 41) ?hr ?_; (case hd => rfl); (case hg => rfl); (case hr => first | (go_simp; done) | (go_simp; rfl)); intro gb102 hg w13 hbox hb; have n0_ := Aside0.mk (blk_below (g := gb101) (o := .cells #[.slice A0_0 l0_0.length c0_0, .int .i64 a0_1, .slice A0_2 l0_2.length c0_2] 25 (0, 0)) (by (with_reducible repeat (first | refine blk_drewN ?_ _ | refine blk_drew ?_ | refine blk_alloc ?_ _)); exact BK101.out) hb); have n1_ := Aside0.mk (below_step (by repeat (first | (with_reducible first | exact HB.out | apply below_alloc | apply pw_below_drewN | apply below_drew1 | refine below_set ?_ GE101.out) | exact HB.out)) hb); have n2_ := Aside0.mk (hbox); have n3_ := Aside0.mk ((by rw [hg]; exact (below_size (by repeat (first | (with_reducible first | exact HB.out | apply below_alloc | apply pw_below_drewN | apply below_drew1 | refine below_set ?_ GE101.out) | exact HB.out))) : w.heap.size ≤ gb102)); have n4_ := Aside0.mk ((by rw [hg]; exact (below_size (by repeat (first | (with_reducible first | exact HB.out | apply below_alloc | apply pw_below_drewN | apply below_drew1 | refine below_set ?_ GE101.out) | exact HB.out))) : w.heap.size ≤ gb102)); have n5_ := Aside0.mk ((by rw [hg]; exact Nat.ne_of_lt (blk_lt (g := gb101) (o := .cells #[.slice A0_0 l0_0.length c0_0, .int .i64 a0_1, .slice A0_2 l0_2.length c0_2] 25 (0, 0)) (by (with_reducible repeat (first | refine blk_drewN ?_ _ | refine blk_drew ?_ | refine blk_alloc ?_ _)); exact BK101.out)) : gb101 ≠ gb102)); have n6_ := Aside0.mk ((by rw [hg]; exact Nat.ne_of_gt (blk_lt (g := gb101) (o := .cells #[.slice A0_0 l0_0.length c0_0, .int .i64 a0_1, .slice A0_2 l0_2.length c0_2] 25 (0, 0)) (by (with_reducible repeat (first | refine blk_drewN ?_ _ | refine blk_drew ?_ | refine blk_alloc ?_ _)); exact BK101.out)) : gb102 ≠ gb101)); clear BK101; clear HB; have BK101 := n0_; have HB := n1_; have BK102 := n2_; have GW102 := n3_; have GE102 := n4_; have NB101_102 := n5_; have NB102_101 := n6_; clear n0_ n1_ n2_ n3_ n4_ n5_ n6_; clear hb hbox hg; have hnb14 := NB102_101.out; have hnc14 := NB101_102.out; have hcz15_0 : w13.cell? ⟨gb102, 0, none⟩ = some (.int .i64 a1_0) := (blk_cell BK102.out 0).trans rfl; have hcz15_1 : w13.cell? ⟨gb102, 1, none⟩ = some (.int .i64 a1_1) := (blk_cell BK102.out 1).trans rfl; have hfz15_0 := blk_frozen BK102.out 0; have hfz15_1 := blk_frozen BK102.out 1; have hcz16_0 : w13.cell? ⟨gb101, 0, none⟩ = some (.slice A0_0 l0_0.length c0_0) := (blk_cell BK101.out 0).trans rfl; have hcz16_1 : w13.cell? ⟨gb101, 1, none⟩ = some (.int .i64 a0_1) := (blk_cell BK101.out 1).trans rfl; have hcz16_2 : w13.cell? ⟨gb101, 2, none⟩ = some (.slice A0_2 l0_2.length c0_2) := (blk_cell BK101.out 2).trans rfl; have hfz16_0 := blk_frozen BK101.out 0; have hfz16_1 := blk_frozen BK101.out 1; have hfz16_2 := blk_frozen BK101.out 2))
        repeat (go_quiet (first | ((with_reducible refine gate_dst (N := 2) rfl ?_); (try (refine gate_guard (by rfl) ?_; dsimp only)); refine box_event ?hg (N := 2) ?hd (cs := #[.slice A0_0 l0_0.length c0_0, .int .i64 a0_1, .slice A0_2 l0_2.length c0_2]) (t := 25) ?hr ?_; (case hd => rfl); (case hg => rfl); (case hr => first | (go_simp; done) | (go_simp; rfl)); intro gb101 hg w12 hbox hb; have n0_ := Aside0.mk (below_step (by repeat (first | (with_reducible first | exact HB.out | apply below_alloc | apply pw_below_drewN | apply below_drew1) | exact HB.out)) hb); have n1_ := Aside0.mk (hbox); have n2_ := Aside0.mk ((by rw [hg]; exact (below_size (by repeat (first | (with_reducible first | exact HB.out | apply below_alloc | apply pw_below_drewN | apply below_drew1) | exact HB.out))) : w.heap.size ≤ gb101)); have n3_ := Aside0.mk ((by rw [hg]; exact (below_size (by repeat (first | (with_reducible first | exact HB.out | apply below_alloc | apply pw_below_drewN | apply below_drew1) | exact HB.out))) : w.heap.size ≤ gb101)); clear HB; have HB := n0_; have BK101 := n1_; have GW101 := n2_; have GE101 := n3_; clear n0_ n1_ n2_ n3_; clear hb hbox hg) | ((with_reducible refine gate_dst (N := 3) rfl ?_); (try (refine gate_guard (by rfl) ?_; dsimp only)); refine box_event ?hg (N := 3) ?hd (cs := #[.int .i64 a1_0, .int .i64 a1_1]) (t := 41) ?hr ?_; (case hd => rfl); (case hg => rfl); (case hr => first | (go_simp; done) | (go_simp; rfl)); intro gb102 hg w13 hbox hb; have n0_ := Aside0.mk (blk_below (g := gb101) (o := .cells #[.slice A0_0 l0_0.length c0_0, .int .i64 a0_1, .slice A0_2 l0_2.length c0_2] 25 (0, 0)) (by (with_reducible repeat (first | refine blk_drewN ?_ _ | refine blk_drew ?_ | refine blk_alloc ?_ _)); exact BK101.out) hb); have n1_ := Aside0.mk (below_step (by repeat (first | (with_reducible first | exact HB.out | apply below_alloc | apply pw_below_drewN | apply below_drew1 | refine below_set ?_ GE101.out) | exact HB.out)) hb); have n2_ := Aside0.mk (hbox); have n3_ := Aside0.mk ((by rw [hg]; exact (below_size (by repeat (first | (with_reducible first | exact HB.out | apply below_alloc | apply pw_below_drewN | apply below_drew1 | refine below_set ?_ GE101.out) | exact HB.out))) : w.heap.size ≤ gb102)); have n4_ := Aside0.mk ((by rw [hg]; exact (below_size (by repeat (first | (with_reducible first | exact HB.out | apply below_alloc | apply pw_below_drewN | apply below_drew1 | refine below_set ?_ GE101.out) | exact HB.out))) : w.heap.size ≤ gb102)); have n5_ := Aside0.mk ((by rw [hg]; exact Nat.ne_of_lt (blk_lt (g := gb101) (o := .cells #[.slice A0_0 l0_0.length c0_0, .int .i64 a0_1, .slice A0_2 l0_2.length c0_2] 25 (0, 0)) (by (with_reducible repeat (first | refine blk_drewN ?_ _ | refine blk_drew ?_ | refine blk_alloc ?_ _)); exact BK101.out)) : gb101 ≠ gb102)); have n6_ := Aside0.mk ((by rw [hg]; exact Nat.ne_of_gt (blk_lt (g := gb101) (o := .cells #[.slice A0_0 l0_0.length c0_0, .int .i64 a0_1, .slice A0_2 l0_2.length c0_2] 25 (0, 0)) (by (with_reducible repeat (first | refine blk_drewN ?_ _ | refine blk_drew ?_ | refine blk_alloc ?_ _)); exact BK101.out)) : gb102 ≠ gb101)); clear BK101; clear HB; have BK101 := n0_; have HB := n1_; have BK102 := n2_; have GW102 := n3_; have GE102 := n4_; have NB101_102 := n5_; have NB102_101 := n6_; clear n0_ n1_ n2_ n3_ n4_ n5_ n6_; clear hb hbox hg; have hnb14 := NB102_101.out; have hnc14 := NB101_102.out; have hcz15_0 : w13.cell? ⟨gb102, 0, none⟩ = some (.int .i64 a1_0) := (blk_cell BK102.out 0).trans rfl; have hcz15_1 : w13.cell? ⟨gb102, 1, none⟩ = some (.int .i64 a1_1) := (blk_cell BK102.out 1).trans rfl; have hfz15_0 := blk_frozen BK102.out 0; have hfz15_1 := blk_frozen BK102.out 1; have hcz16_0 : w13.cell? ⟨gb101, 0, none⟩ = some (.slice A0_0 l0_0.length c0_0) := (blk_cell BK101.out 0).trans rfl; have hcz16_1 : w13.cell? ⟨gb101, 1, none⟩ = some (.int .i64 a0_1) := (blk_cell BK101.out 1).trans rfl; have hcz16_2 : w13.cell? ⟨gb101, 2, none⟩ = some (.slice A0_2 l0_2.length c0_2) := (blk_cell BK101.out 2).trans rfl; have hfz16_0 := blk_frozen BK101.out 0; have hfz16_1 := blk_frozen BK101.out 1; have hfz16_2 := blk_frozen BK101.out 2)); try go_wp2_with (first | ((with_reducible refine gate_dst (N := 2) rfl ?_); (try (refine gate_guard (by rfl) ?_; dsimp only)); refine box_event ?hg (N := 2) ?hd (cs := #[.slice A0_0 l0_0.length c0_0, .int .i64 a0_1, .slice A0_2 l0_2.length c0_2]) (t := 25) ?hr ?_; (case hd => rfl); (case hg => rfl); (case hr => first | (go_simp; done) | (go_simp; rfl)); intro gb101 hg w12 hbox hb; have n0_ := Aside0.mk (below_step (by repeat (first | (with_reducible first | exact HB.out | apply below_alloc | apply pw_below_drewN | apply below_drew1) | exact HB.out)) hb); have n1_ := Aside0.mk (hbox); have n2_ := Aside0.mk ((by rw [hg]; exact (below_size (by repeat (first | (with_reducible first | exact HB.out | apply below_alloc | apply pw_below_drewN | apply below_drew1) | exact HB.out))) : w.heap.size ≤ gb101)); have n3_ := Aside0.mk ((by rw [hg]; exact (below_size (by repeat (first | (with_reducible first | exact HB.out | apply below_alloc | apply pw_below_drewN | apply below_drew1) | exact HB.out))) : w.heap.size ≤ gb101)); clear HB; have HB := n0_; have BK101 := n1_; have GW101 := n2_; have GE101 := n3_; clear n0_ n1_ n2_ n3_; clear hb hbox hg) | ((with_reducible refine gate_dst (N := 3) rfl ?_); (try (refine gate_guard (by rfl) ?_; dsimp only)); refine box_event ?hg (N := 3) ?hd (cs := #[.int .i64 a1_0, .int .i64 a1_1]) (t := 41) ?hr ?_; (case hd => rfl); (case hg => rfl); (case hr => first | (go_simp; done) | (go_simp; rfl)); intro gb102 hg w13 hbox hb; have n0_ := Aside0.mk (blk_below (g := gb101) (o := .cells #[.slice A0_0 l0_0.length c0_0, .int .i64 a0_1, .slice A0_2 l0_2.length c0_2] 25 (0, 0)) (by (with_reducible repeat (first | refine blk_drewN ?_ _ | refine blk_drew ?_ | refine blk_alloc ?_ _)); exact BK101.out) hb); have n1_ := Aside0.mk (below_step (by repeat (first | (with_reducible first | exact HB.out | apply below_alloc | apply pw_below_drewN | apply below_drew1 | refine below_set ?_ GE101.out) | exact HB.out)) hb); have n2_ := Aside0.mk (hbox); have n3_ := Aside0.mk ((by rw [hg]; exact (below_size (by repeat (first | (with_reducible first | exact HB.out | apply below_alloc | apply pw_below_drewN | apply below_drew1 | refine below_set ?_ GE101.out) | exact HB.out))) : w.heap.size ≤ gb102)); have n4_ := Aside0.mk ((by rw [hg]; exact (below_size (by repeat (first | (with_reducible first | exact HB.out | apply below_alloc | apply pw_below_drewN | apply below_drew1 | refine below_set ?_ GE101.out) | exact HB.out))) : w.heap.size ≤ gb102)); have n5_ := Aside0.mk ((by rw [hg]; exact Nat.ne_of_lt (blk_lt (g := gb101) (o := .cells #[.slice A0_0 l0_0.length c0_0, .int .i64 a0_1, .slice A0_2 l0_2.length c0_2] 25 (0, 0)) (by (with_reducible repeat (first | refine blk_drewN ?_ _ | refine blk_drew ?_ | refine blk_alloc ?_ _)); exact BK101.out)) : gb101 ≠ gb102)); have n6_ := Aside0.mk ((by rw [hg]; exact Nat.ne_of_gt (blk_lt (g := gb101) (o := .cells #[.slice A0_0 l0_0.length c0_0, .int .i64 a0_1, .slice A0_2 l0_2.length c0_2] 25 (0, 0)) (by (with_reducible repeat (first | refine blk_drewN ?_ _ | refine blk_drew ?_ | refine blk_alloc ?_ _)); exact BK101.out)) : gb102 ≠ gb101)); clear BK101; clear HB; have BK101 := n0_; have HB := n1_; have BK102 := n2_; have GW102 := n3_; have GE102 := n4_; have NB101_102 := n5_; have NB102_101 := n6_; clear n0_ n1_ n2_ n3_ n4_ n5_ n6_; clear hb hbox hg; have hnb14 := NB102_101.out; have hnc14 := NB101_102.out; have hcz15_0 : w13.cell? ⟨gb102, 0, none⟩ = some (.int .i64 a1_0) := (blk_cell BK102.out 0).trans rfl; have hcz15_1 : w13.cell? ⟨gb102, 1, none⟩ = some (.int .i64 a1_1) := (blk_cell BK102.out 1).trans rfl; have hfz15_0 := blk_frozen BK102.out 0; have hfz15_1 := blk_frozen BK102.out 1; have hcz16_0 : w13.cell? ⟨gb101, 0, none⟩ = some (.slice A0_0 l0_0.length c0_0) := (blk_cell BK101.out 0).trans rfl; have hcz16_1 : w13.cell? ⟨gb101, 1, none⟩ = some (.int .i64 a0_1) := (blk_cell BK101.out 1).trans rfl; have hcz16_2 : w13.cell? ⟨gb101, 2, none⟩ = some (.slice A0_2 l0_2.length c0_2) := (blk_cell BK101.out 2).trans rfl; have hfz16_0 := blk_frozen BK101.out 0; have hfz16_1 := blk_frozen BK101.out 1; have hfz16_2 := blk_frozen BK101.out 2)))
        go_ret
        exact ⟨by first | rfl | (simp [errW_none, errW_some] <;> rfl) | (simp [*, errW_none, errW_some] <;> rfl), by repeat (first | (with_reducible first | exact HB.out | apply below_alloc | apply pw_below_drewN | apply below_drew1 | refine below_set ?_ GE101.out | refine below_set ?_ GE102.out) | exact HB.out)⟩
    · rw [if_neg c4] at H
      have c4b0 : decide (a1_0 < (l0_2.length : Int)) = false := decide_eq_false c4
      clear c4
      obtain rfl := Option.some.inj H
      go_enter Try.func59, Try.ntmps59
      go_wp2_with (first | ((with_reducible refine gate_dst (N := 2) rfl ?_); (try (refine gate_guard (by rfl) ?_; dsimp only)); refine box_event ?hg (N := 2) ?hd (cs := #[.slice A0_0 l0_0.length c0_0, .int .i64 a0_1, .slice A0_2 l0_2.length c0_2]) (t := 25) ?hr ?_; (case hd => rfl); (case hg => rfl); (case hr => first | (go_simp; done) | (go_simp; rfl)); intro gb101 hg w17 hbox hb; have n0_ := Aside0.mk (below_step (by repeat (first | (with_reducible first | exact HB.out | apply below_alloc | apply pw_below_drewN | apply below_drew1) | exact HB.out)) hb); have n1_ := Aside0.mk (hbox); have n2_ := Aside0.mk ((by rw [hg]; exact (below_size (by repeat (first | (with_reducible first | exact HB.out | apply below_alloc | apply pw_below_drewN | apply below_drew1) | exact HB.out))) : w.heap.size ≤ gb101)); have n3_ := Aside0.mk ((by rw [hg]; exact (below_size (by repeat (first | (with_reducible first | exact HB.out | apply below_alloc | apply pw_below_drewN | apply below_drew1) | exact HB.out))) : w.heap.size ≤ gb101)); clear HB; have HB := n0_; have BK101 := n1_; have GW101 := n2_; have GE101 := n3_; clear n0_ n1_ n2_ n3_; clear hb hbox hg) | ((with_reducible refine gate_dst (N := 3) rfl ?_); (try (refine gate_guard (by rfl) ?_; dsimp only)); refine box_event ?hg (N := 3) ?hd (cs := #[.int .i64 a1_0, .int .i64 a1_1]) (t := 41) ?hr ?_; (case hd => rfl); (case hg => rfl); (case hr => first | (go_simp; done) | (go_simp; rfl)); intro gb102 hg w18 hbox hb; have n0_ := Aside0.mk (blk_below (g := gb101) (o := .cells #[.slice A0_0 l0_0.length c0_0, .int .i64 a0_1, .slice A0_2 l0_2.length c0_2] 25 (0, 0)) (by (with_reducible repeat (first | refine blk_drewN ?_ _ | refine blk_drew ?_ | refine blk_alloc ?_ _)); exact BK101.out) hb); have n1_ := Aside0.mk (below_step (by repeat (first | (with_reducible first | exact HB.out | apply below_alloc | apply pw_below_drewN | apply below_drew1 | refine below_set ?_ GE101.out) | exact HB.out)) hb); have n2_ := Aside0.mk (hbox); have n3_ := Aside0.mk ((by rw [hg]; exact (below_size (by repeat (first | (with_reducible first | exact HB.out | apply below_alloc | apply pw_below_drewN | apply below_drew1 | refine below_set ?_ GE101.out) | exact HB.out))) : w.heap.size ≤ gb102)); have n4_ := Aside0.mk ((by rw [hg]; exact (below_size (by repeat (first | (with_reducible first | exact HB.out | apply below_alloc | apply pw_below_drewN | apply below_drew1 | refine below_set ?_ GE101.out) | exact HB.out))) : w.heap.size ≤ gb102)); have n5_ := Aside0.mk ((by rw [hg]; exact Nat.ne_of_lt (blk_lt (g := gb101) (o := .cells #[.slice A0_0 l0_0.length c0_0, .int .i64 a0_1, .slice A0_2 l0_2.length c0_2] 25 (0, 0)) (by (with_reducible repeat (first | refine blk_drewN ?_ _ | refine blk_drew ?_ | refine blk_alloc ?_ _)); exact BK101.out)) : gb101 ≠ gb102)); have n6_ := Aside0.mk ((by rw [hg]; exact Nat.ne_of_gt (blk_lt (g := gb101) (o := .cells #[.slice A0_0 l0_0.length c0_0, .int .i64 a0_1, .slice A0_2 l0_2.length c0_2] 25 (0, 0)) (by (with_reducible repeat (first | refine blk_drewN ?_ _ | refine blk_drew ?_ | refine blk_alloc ?_ _)); exact BK101.out)) : gb102 ≠ gb101)); clear BK101; clear HB; have BK101 := n0_; have HB := n1_; have BK102 := n2_; have GW102 := n3_; have GE102 := n4_; have NB101_102 := n5_; have NB102_101 := n6_; clear n0_ n1_ n2_ n3_ n4_ n5_ n6_; clear hb hbox hg; have hnb19 := NB102_101.out; have hnc19 := NB101_102.out; have hcz20_0 : w18.cell? ⟨gb102, 0, none⟩ = some (.int .i64 a1_0) := (blk_cell BK102.out 0).trans rfl; have hcz20_1 : w18.cell? ⟨gb102, 1, none⟩ = some (.int .i64 a1_1) := (blk_cell BK102.out 1).trans rfl; have hfz20_0 := blk_frozen BK102.out 0; have hfz20_1 := blk_frozen BK102.out 1; have hcz21_0 : w18.cell? ⟨gb101, 0, none⟩ = some (.slice A0_0 l0_0.length c0_0) := (blk_cell BK101.out 0).trans rfl; have hcz21_1 : w18.cell? ⟨gb101, 1, none⟩ = some (.int .i64 a0_1) := (blk_cell BK101.out 1).trans rfl; have hcz21_2 : w18.cell? ⟨gb101, 2, none⟩ = some (.slice A0_2 l0_2.length c0_2) := (blk_cell BK101.out 2).trans rfl; have hfz21_0 := blk_frozen BK101.out 0; have hfz21_1 := blk_frozen BK101.out 1; have hfz21_2 := blk_frozen BK101.out 2))
      repeat (go_quiet (first | ((with_reducible refine gate_dst (N := 2) rfl ?_); (try (refine gate_guard (by rfl) ?_; dsimp only)); refine box_event ?hg (N := 2) ?hd (cs := #[.slice A0_0 l0_0.length c0_0, .int .i64 a0_1, .slice A0_2 l0_2.length c0_2]) (t := 25) ?hr ?_; (case hd => rfl); (case hg => rfl); (case hr => first | (go_simp; done) | (go_simp; rfl)); intro gb101 hg w17 hbox hb; have n0_ := Aside0.mk (below_step (by repeat (first | (with_reducible first | exact HB.out | apply below_alloc | apply pw_below_drewN | apply below_drew1) | exact HB.out)) hb); have n1_ := Aside0.mk (hbox); have n2_ := Aside0.mk ((by rw [hg]; exact (below_size (by repeat (first | (with_reducible first | exact HB.out | apply below_alloc | apply pw_below_drewN | apply below_drew1) | exact HB.out))) : w.heap.size ≤ gb101)); have n3_ := Aside0.mk ((by rw [hg]; exact (below_size (by repeat (first | (with_reducible first | exact HB.out | apply below_alloc | apply pw_below_drewN | apply below_drew1) | exact HB.out))) : w.heap.size ≤ gb101)); clear HB; have HB := n0_; have BK101 := n1_; have GW101 := n2_; have GE101 := n3_; clear n0_ n1_ n2_ n3_; clear hb hbox hg) | ((with_reducible refine gate_dst (N := 3) rfl ?_); (try (refine gate_guard (by rfl) ?_; dsimp only)); refine box_event ?hg (N := 3) ?hd (cs := #[.int .i64 a1_0, .int .i64 a1_1]) (t := 41) ?hr ?_; (case hd => rfl); (case hg => rfl); (case hr => first | (go_simp; done) | (go_simp; rfl)); intro gb102 hg w18 hbox hb; have n0_ := Aside0.mk (blk_below (g := gb101) (o := .cells #[.slice A0_0 l0_0.length c0_0, .int .i64 a0_1, .slice A0_2 l0_2.length c0_2] 25 (0, 0)) (by (with_reducible repeat (first | refine blk_drewN ?_ _ | refine blk_drew ?_ | refine blk_alloc ?_ _)); exact BK101.out) hb); have n1_ := Aside0.mk (below_step (by repeat (first | (with_reducible first | exact HB.out | apply below_alloc | apply pw_below_drewN | apply below_drew1 | refine below_set ?_ GE101.out) | exact HB.out)) hb); have n2_ := Aside0.mk (hbox); have n3_ := Aside0.mk ((by rw [hg]; exact (below_size (by repeat (first | (with_reducible first | exact HB.out | apply below_alloc | apply pw_below_drewN | apply below_drew1 | refine below_set ?_ GE101.out) | exact HB.out))) : w.heap.size ≤ gb102)); have n4_ := Aside0.mk ((by rw [hg]; exact (below_size (by repeat (first | (with_reducible first | exact HB.out | apply below_alloc | apply pw_below_drewN | apply below_drew1 | refine below_set ?_ GE101.out) | exact HB.out))) : w.heap.size ≤ gb102)); have n5_ := Aside0.mk ((by rw [hg]; exact Nat.ne_of_lt (blk_lt (g := gb101) (o := .cells #[.slice A0_0 l0_0.length c0_0, .int .i64 a0_1, .slice A0_2 l0_2.length c0_2] 25 (0, 0)) (by (with_reducible repeat (first | refine blk_drewN ?_ _ | refine blk_drew ?_ | refine blk_alloc ?_ _)); exact BK101.out)) : gb101 ≠ gb102)); have n6_ := Aside0.mk ((by rw [hg]; exact Nat.ne_of_gt (blk_lt (g := gb101) (o := .cells #[.slice A0_0 l0_0.length c0_0, .int .i64 a0_1, .slice A0_2 l0_2.length c0_2] 25 (0, 0)) (by (with_reducible repeat (first | refine blk_drewN ?_ _ | refine blk_drew ?_ | refine blk_alloc ?_ _)); exact BK101.out)) : gb102 ≠ gb101)); clear BK101; clear HB; have BK101 := n0_; have HB := n1_; have BK102 := n2_; have GW102 := n3_; have GE102 := n4_; have NB101_102 := n5_; have NB102_101 := n6_; clear n0_ n1_ n2_ n3_ n4_ n5_ n6_; clear hb hbox hg; have hnb19 := NB102_101.out; have hnc19 := NB101_102.out; have hcz20_0 : w18.cell? ⟨gb102, 0, none⟩ = some (.int .i64 a1_0) := (blk_cell BK102.out 0).trans rfl; have hcz20_1 : w18.cell? ⟨gb102, 1, none⟩ = some (.int .i64 a1_1) := (blk_cell BK102.out 1).trans rfl; have hfz20_0 := blk_frozen BK102.out 0; have hfz20_1 := blk_frozen BK102.out 1; have hcz21_0 : w18.cell? ⟨gb101, 0, none⟩ = some (.slice A0_0 l0_0.length c0_0) := (blk_cell BK101.out 0).trans rfl; have hcz21_1 : w18.cell? ⟨gb101, 1, none⟩ = some (.int .i64 a0_1) := (blk_cell BK101.out 1).trans rfl; have hcz21_2 : w18.cell? ⟨gb101, 2, none⟩ = some (.slice A0_2 l0_2.length c0_2) := (blk_cell BK101.out 2).trans rfl; have hfz21_0 := blk_frozen BK101.out 0; have hfz21_1 := blk_frozen BK101.out 1; have hfz21_2 := blk_frozen BK101.out 2)); try go_wp2_with (first | ((with_reducible refine gate_dst (N := 2) rfl ?_); (try (refine gate_guard (by rfl) ?_; dsimp only)); refine box_event ?hg (N := 2) ?hd (cs := #[.slice A0_0 l0_0.length c0_0, .int .i64 a0_1, .slice A0_2 l0_2.length c0_2]) (t := 25) ?hr ?_; (case hd => rfl); (case hg => rfl); (case hr => first | (go_simp; done) | (go_simp; rfl)); intro gb101 hg w17 hbox hb; have n0_ := Aside0.mk (below_step (by repeat (first | (with_reducible first | exact HB.out | apply below_alloc | apply pw_below_drewN | apply below_drew1) | exact HB.out)) hb); have n1_ := Aside0.mk (hbox); have n2_ := Aside0.mk ((by rw [hg]; exact (below_size (by repeat (first | (with_reducible first | exact HB.out | apply below_alloc | apply pw_below_drewN | apply below_drew1) | exact HB.out))) : w.heap.size ≤ gb101)); have n3_ := Aside0.mk ((by rw [hg]; exact (below_size (by repeat (first | (with_reducible first | exact HB.out | apply below_alloc | apply pw_below_drewN | apply below_drew1) | exact HB.out))) : w.heap.size ≤ gb101)); clear HB; have HB := n0_; have BK101 := n1_; have GW101 := n2_; have GE101 := n3_; clear n0_ n1_ n2_ n3_; clear hb hbox hg) | ((with_reducible refine gate_dst (N := 3) rfl ?_); (try (refine gate_guard (by rfl) ?_; dsimp only)); refine box_event ?hg (N := 3) ?hd (cs := #[.int .i64 a1_0, .int .i64 a1_1]) (t := 41) ?hr ?_; (case hd => rfl); (case hg => rfl); (case hr => first | (go_simp; done) | (go_simp; rfl)); intro gb102 hg w18 hbox hb; have n0_ := Aside0.mk (blk_below (g := gb101) (o := .cells #[.slice A0_0 l0_0.length c0_0, .int .i64 a0_1, .slice A0_2 l0_2.length c0_2] 25 (0, 0)) (by (with_reducible repeat (first | refine blk_drewN ?_ _ | refine blk_drew ?_ | refine blk_alloc ?_ _)); exact BK101.out) hb); have n1_ := Aside0.mk (below_step (by repeat (first | (with_reducible first | exact HB.out | apply below_alloc | apply pw_below_drewN | apply below_drew1 | refine below_set ?_ GE101.out) | exact HB.out)) hb); have n2_ := Aside0.mk (hbox); have n3_ := Aside0.mk ((by rw [hg]; exact (below_size (by repeat (first | (with_reducible first | exact HB.out | apply below_alloc | apply pw_below_drewN | apply below_drew1 | refine below_set ?_ GE101.out) | exact HB.out))) : w.heap.size ≤ gb102)); have n4_ := Aside0.mk ((by rw [hg]; exact (below_size (by repeat (first | (with_reducible first | exact HB.out | apply below_alloc | apply pw_below_drewN | apply below_drew1 | refine below_set ?_ GE101.out) | exact HB.out))) : w.heap.size ≤ gb102)); have n5_ := Aside0.mk ((by rw [hg]; exact Nat.ne_of_lt (blk_lt (g := gb101) (o := .cells #[.slice A0_0 l0_0.length c0_0, .int .i64 a0_1, .slice A0_2 l0_2.length c0_2] 25 (0, 0)) (by (with_reducible repeat (first | refine blk_drewN ?_ _ | refine blk_drew ?_ | refine blk_alloc ?_ _)); exact BK101.out)) : gb101 ≠ gb102)); have n6_ := Aside0.mk ((by rw [hg]; exact Nat.ne_of_gt (blk_lt (g := gb101) (o := .cells #[.slice A0_0 l0_0.length c0_0, .int .i64 a0_1, .slice A0_2 l0_2.length c0_2] 25 (0, 0)) (by (with_reducible repeat (first | refine blk_drewN ?_ _ | refine blk_drew ?_ | refine blk_alloc ?_ _)); exact BK101.out)) : gb102 ≠ gb101)); clear BK101; clear HB; have BK101 := n0_; have HB := n1_; have BK102 := n2_; have GW102 := n3_; have GE102 := n4_; have NB101_102 := n5_; have NB102_101 := n6_; clear n0_ n1_ n2_ n3_ n4_ n5_ n6_; clear hb hbox hg; have hnb19 := NB102_101.out; have hnc19 := NB101_102.out; have hcz20_0 : w18.cell? ⟨gb102, 0, none⟩ = some (.int .i64 a1_0) := (blk_cell BK102.out 0).trans rfl; have hcz20_1 : w18.cell? ⟨gb102, 1, none⟩ = some (.int .i64 a1_1) := (blk_cell BK102.out 1).trans rfl; have hfz20_0 := blk_frozen BK102.out 0; have hfz20_1 := blk_frozen BK102.out 1; have hcz21_0 : w18.cell? ⟨gb101, 0, none⟩ = some (.slice A0_0 l0_0.length c0_0) := (blk_cell BK101.out 0).trans rfl; have hcz21_1 : w18.cell? ⟨gb101, 1, none⟩ = some (.int .i64 a0_1) := (blk_cell BK101.out 1).trans rfl; have hcz21_2 : w18.cell? ⟨gb101, 2, none⟩ = some (.slice A0_2 l0_2.length c0_2) := (blk_cell BK101.out 2).trans rfl; have hfz21_0 := blk_frozen BK101.out 0; have hfz21_1 := blk_frozen BK101.out 1; have hfz21_2 := blk_frozen BK101.out 2)))
      go_ret
      exact ⟨by first | rfl | (simp [errW_none, errW_some] <;> rfl) | (simp [*, errW_none, errW_some] <;> rfl), by repeat (first | (with_reducible first | exact HB.out | apply below_alloc | apply pw_below_drewN | apply below_drew1 | refine below_set ?_ GE101.out | refine below_set ?_ GE102.out) | exact HB.out)⟩
  · rw [if_neg c3] at H
    have c3b0 : decide (0 ≤ a1_0) = false := decide_eq_false c3
    clear c3
    obtain rfl := Option.some.inj H
    go_enter Try.func59, Try.ntmps59
    go_wp2_with (first | ((with_reducible refine gate_dst (N := 2) rfl ?_); (try (refine gate_guard (by rfl) ?_; dsimp only)); refine box_event ?hg (N := 2) ?hd (cs := #[.slice A0_0 l0_0.length c0_0, .int .i64 a0_1, .slice A0_2 l0_2.length c0_2]) (t := 25) ?hr ?_; (case hd => rfl); (case hg => rfl); (case hr => first | (go_simp; done) | (go_simp; rfl)); intro gb101 hg w22 hbox hb; have n0_ := Aside0.mk (below_step (by repeat (first | (with_reducible first | exact HB.out | apply below_alloc | apply pw_below_drewN | apply below_drew1) | exact HB.out)) hb); have n1_ := Aside0.mk (hbox); have n2_ := Aside0.mk ((by rw [hg]; exact (below_size (by repeat (first | (with_reducible first | exact HB.out | apply below_alloc | apply pw_below_drewN | apply below_drew1) | exact HB.out))) : w.heap.size ≤ gb101)); have n3_ := Aside0.mk ((by rw [hg]; exact (below_size (by repeat (first | (with_reducible first | exact HB.out | apply below_alloc | apply pw_below_drewN | apply below_drew1) | exact HB.out))) : w.heap.size ≤ gb101)); clear HB; have HB := n0_; have BK101 := n1_; have GW101 := n2_; have GE101 := n3_; clear n0_ n1_ n2_ n3_; clear hb hbox hg) | ((with_reducible refine gate_dst (N := 3) rfl ?_); (try (refine gate_guard (by rfl) ?_; dsimp only)); refine box_event ?hg (N := 3) ?hd (cs := #[.int .i64 a1_0, .int .i64 a1_1]) (t := 41) ?hr ?_; (case hd => rfl); (case hg => rfl); (case hr => first | (go_simp; done) | (go_simp; rfl)); intro gb102 hg w23 hbox hb; have n0_ := Aside0.mk (blk_below (g := gb101) (o := .cells #[.slice A0_0 l0_0.length c0_0, .int .i64 a0_1, .slice A0_2 l0_2.length c0_2] 25 (0, 0)) (by (with_reducible repeat (first | refine blk_drewN ?_ _ | refine blk_drew ?_ | refine blk_alloc ?_ _)); exact BK101.out) hb); have n1_ := Aside0.mk (below_step (by repeat (first | (with_reducible first | exact HB.out | apply below_alloc | apply pw_below_drewN | apply below_drew1 | refine below_set ?_ GE101.out) | exact HB.out)) hb); have n2_ := Aside0.mk (hbox); have n3_ := Aside0.mk ((by rw [hg]; exact (below_size (by repeat (first | (with_reducible first | exact HB.out | apply below_alloc | apply pw_below_drewN | apply below_drew1 | refine below_set ?_ GE101.out) | exact HB.out))) : w.heap.size ≤ gb102)); have n4_ := Aside0.mk ((by rw [hg]; exact (below_size (by repeat (first | (with_reducible first | exact HB.out | apply below_alloc | apply pw_below_drewN | apply below_drew1 | refine below_set ?_ GE101.out) | exact HB.out))) : w.heap.size ≤ gb102)); have n5_ := Aside0.mk ((by rw [hg]; exact Nat.ne_of_lt (blk_lt (g := gb101) (o := .cells #[.slice A0_0 l0_0.length c0_0, .int .i64 a0_1, .slice A0_2 l0_2.length c0_2] 25 (0, 0)) (by (with_reducible repeat (first | refine blk_drewN ?_ _ | refine blk_drew ?_ | refine blk_alloc ?_ _)); exact BK101.out)) : gb101 ≠ gb102)); have n6_ := Aside0.mk ((by rw [hg]; exact Nat.ne_of_gt (blk_lt (g := gb101) (o := .cells #[.slice A0_0 l0_0.length c0_0, .int .i64 a0_1, .slice A0_2 l0_2.length c0_2] 25 (0, 0)) (by (with_reducible repeat (first | refine blk_drewN ?_ _ | refine blk_drew ?_ | refine blk_alloc ?_ _)); exact BK101.out)) : gb102 ≠ gb101)); clear BK101; clear HB; have BK101 := n0_; have HB := n1_; have BK102 := n2_; have GW102 := n3_; have GE102 := n4_; have NB101_102 := n5_; have NB102_101 := n6_; clear n0_ n1_ n2_ n3_ n4_ n5_ n6_; clear hb hbox hg; have hnb24 := NB102_101.out; have hnc24 := NB101_102.out; have hcz25_0 : w23.cell? ⟨gb102, 0, none⟩ = some (.int .i64 a1_0) := (blk_cell BK102.out 0).trans rfl; have hcz25_1 : w23.cell? ⟨gb102, 1, none⟩ = some (.int .i64 a1_1) := (blk_cell BK102.out 1).trans rfl; have hfz25_0 := blk_frozen BK102.out 0; have hfz25_1 := blk_frozen BK102.out 1))
    repeat (go_quiet (first | ((with_reducible refine gate_dst (N := 2) rfl ?_); (try (refine gate_guard (by rfl) ?_; dsimp only)); refine box_event ?hg (N := 2) ?hd (cs := #[.slice A0_0 l0_0.length c0_0, .int .i64 a0_1, .slice A0_2 l0_2.length c0_2]) (t := 25) ?hr ?_; (case hd => rfl); (case hg => rfl); (case hr => first | (go_simp; done) | (go_simp; rfl)); intro gb101 hg w22 hbox hb; have n0_ := Aside0.mk (below_step (by repeat (first | (with_reducible first | exact HB.out | apply below_alloc | apply pw_below_drewN | apply below_drew1) | exact HB.out)) hb); have n1_ := Aside0.mk (hbox); have n2_ := Aside0.mk ((by rw [hg]; exact (below_size (by repeat (first | (with_reducible first | exact HB.out | apply below_alloc | apply pw_below_drewN | apply below_drew1) | exact HB.out))) : w.heap.size ≤ gb101)); have n3_ := Aside0.mk ((by rw [hg]; exact (below_size (by repeat (first | (with_reducible first | exact HB.out | apply below_alloc | apply pw_below_drewN | apply below_drew1) | exact HB.out))) : w.heap.size ≤ gb101)); clear HB; have HB := n0_; have BK101 := n1_; have GW101 := n2_; have GE101 := n3_; clear n0_ n1_ n2_ n3_; clear hb hbox hg) | ((with_reducible refine gate_dst (N := 3) rfl ?_); (try (refine gate_guard (by rfl) ?_; dsimp only)); refine box_event ?hg (N := 3) ?hd (cs := #[.int .i64 a1_0, .int .i64 a1_1]) (t := 41) ?hr ?_; (case hd => rfl); (case hg => rfl); (case hr => first | (go_simp; done) | (go_simp; rfl)); intro gb102 hg w23 hbox hb; have n0_ := Aside0.mk (blk_below (g := gb101) (o := .cells #[.slice A0_0 l0_0.length c0_0, .int .i64 a0_1, .slice A0_2 l0_2.length c0_2] 25 (0, 0)) (by (with_reducible repeat (first | refine blk_drewN ?_ _ | refine blk_drew ?_ | refine blk_alloc ?_ _)); exact BK101.out) hb); have n1_ := Aside0.mk (below_step (by repeat (first | (with_reducible first | exact HB.out | apply below_alloc | apply pw_below_drewN | apply below_drew1 | refine below_set ?_ GE101.out) | exact HB.out)) hb); have n2_ := Aside0.mk (hbox); have n3_ := Aside0.mk ((by rw [hg]; exact (below_size (by repeat (first | (with_reducible first | exact HB.out | apply below_alloc | apply pw_below_drewN | apply below_drew1 | refine below_set ?_ GE101.out) | exact HB.out))) : w.heap.size ≤ gb102)); have n4_ := Aside0.mk ((by rw [hg]; exact (below_size (by repeat (first | (with_reducible first | exact HB.out | apply below_alloc | apply pw_below_drewN | apply below_drew1 | refine below_set ?_ GE101.out) | exact HB.out))) : w.heap.size ≤ gb102)); have n5_ := Aside0.mk ((by rw [hg]; exact Nat.ne_of_lt (blk_lt (g := gb101) (o := .cells #[.slice A0_0 l0_0.length c0_0, .int .i64 a0_1, .slice A0_2 l0_2.length c0_2] 25 (0, 0)) (by (with_reducible repeat (first | refine blk_drewN ?_ _ | refine blk_drew ?_ | refine blk_alloc ?_ _)); exact BK101.out)) : gb101 ≠ gb102)); have n6_ := Aside0.mk ((by rw [hg]; exact Nat.ne_of_gt (blk_lt (g := gb101) (o := .cells #[.slice A0_0 l0_0.length c0_0, .int .i64 a0_1, .slice A0_2 l0_2.length c0_2] 25 (0, 0)) (by (with_reducible repeat (first | refine blk_drewN ?_ _ | refine blk_drew ?_ | refine blk_alloc ?_ _)); exact BK101.out)) : gb102 ≠ gb101)); clear BK101; clear HB; have BK101 := n0_; have HB := n1_; have BK102 := n2_; have GW102 := n3_; have GE102 := n4_; have NB101_102 := n5_; have NB102_101 := n6_; clear n0_ n1_ n2_ n3_ n4_ n5_ n6_; clear hb hbox hg; have hnb24 := NB102_101.out; have hnc24 := NB101_102.out; have hcz25_0 : w23.cell? ⟨gb102, 0, none⟩ = some (.int .i64 a1_0) := (blk_cell BK102.out 0).trans rfl; have hcz25_1 : w23.cell? ⟨gb102, 1, none⟩ = some (.int .i64 a1_1) := (blk_cell BK102.out 1).trans rfl; have hfz25_0 := blk_frozen BK102.out 0; have hfz25_1 := blk_frozen BK102.out 1)); try go_wp2_with (first | ((with_reducible refine gate_dst (N := 2) rfl ?_); (try (refine gate_guard (by rfl) ?_; dsimp only)); refine box_event ?hg (N := 2) ?hd (cs := #[.slice A0_0 l0_0.length c0_0, .int .i64 a0_1, .slice A0_2 l0_2.length c0_2]) (t := 25) ?hr ?_; (case hd => rfl); (case hg => rfl); (case hr => first | (go_simp; done) | (go_simp; rfl)); intro gb101 hg w22 hbox hb; have n0_ := Aside0.mk (below_step (by repeat (first | (with_reducible first | exact HB.out | apply below_alloc | apply pw_below_drewN | apply below_drew1) | exact HB.out)) hb); have n1_ := Aside0.mk (hbox); have n2_ := Aside0.mk ((by rw [hg]; exact (below_size (by repeat (first | (with_reducible first | exact HB.out | apply below_alloc | apply pw_below_drewN | apply below_drew1) | exact HB.out))) : w.heap.size ≤ gb101)); have n3_ := Aside0.mk ((by rw [hg]; exact (below_size (by repeat (first | (with_reducible first | exact HB.out | apply below_alloc | apply pw_below_drewN | apply below_drew1) | exact HB.out))) : w.heap.size ≤ gb101)); clear HB; have HB := n0_; have BK101 := n1_; have GW101 := n2_; have GE101 := n3_; clear n0_ n1_ n2_ n3_; clear hb hbox hg) | ((with_reducible refine gate_dst (N := 3) rfl ?_); (try (refine gate_guard (by rfl) ?_; dsimp only)); refine box_event ?hg (N := 3) ?hd (cs := #[.int .i64 a1_0, .int .i64 a1_1]) (t := 41) ?hr ?_; (case hd => rfl); (case hg => rfl); (case hr => first | (go_simp; done) | (go_simp; rfl)); intro gb102 hg w23 hbox hb; have n0_ := Aside0.mk (blk_below (g := gb101) (o := .cells #[.slice A0_0 l0_0.length c0_0, .int .i64 a0_1, .slice A0_2 l0_2.length c0_2] 25 (0, 0)) (by (with_reducible repeat (first | refine blk_drewN ?_ _ | refine blk_drew ?_ | refine blk_alloc ?_ _)); exact BK101.out) hb); have n1_ := Aside0.mk (below_step (by repeat (first | (with_reducible first | exact HB.out | apply below_alloc | apply pw_below_drewN | apply below_drew1 | refine below_set ?_ GE101.out) | exact HB.out)) hb); have n2_ := Aside0.mk (hbox); have n3_ := Aside0.mk ((by rw [hg]; exact (below_size (by repeat (first | (with_reducible first | exact HB.out | apply below_alloc | apply pw_below_drewN | apply below_drew1 | refine below_set ?_ GE101.out) | exact HB.out))) : w.heap.size ≤ gb102)); have n4_ := Aside0.mk ((by rw [hg]; exact (below_size (by repeat (first | (with_reducible first | exact HB.out | apply below_alloc | apply pw_below_drewN | apply below_drew1 | refine below_set ?_ GE101.out) | exact HB.out))) : w.heap.size ≤ gb102)); have n5_ := Aside0.mk ((by rw [hg]; exact Nat.ne_of_lt (blk_lt (g := gb101) (o := .cells #[.slice A0_0 l0_0.length c0_0, .int .i64 a0_1, .slice A0_2 l0_2.length c0_2] 25 (0, 0)) (by (with_reducible repeat (first | refine blk_drewN ?_ _ | refine blk_drew ?_ | refine blk_alloc ?_ _)); exact BK101.out)) : gb101 ≠ gb102)); have n6_ := Aside0.mk ((by rw [hg]; exact Nat.ne_of_gt (blk_lt (g := gb101) (o := .cells #[.slice A0_0 l0_0.length c0_0, .int .i64 a0_1, .slice A0_2 l0_2.length c0_2] 25 (0, 0)) (by (with_reducible repeat (first | refine blk_drewN ?_ _ | refine blk_drew ?_ | refine blk_alloc ?_ _)); exact BK101.out)) : gb102 ≠ gb101)); clear BK101; clear HB; have BK101 := n0_; have HB := n1_; have BK102 := n2_; have GW102 := n3_; have GE102 := n4_; have NB101_102 := n5_; have NB102_101 := n6_; clear n0_ n1_ n2_ n3_ n4_ n5_ n6_; clear hb hbox hg; have hnb24 := NB102_101.out; have hnc24 := NB101_102.out; have hcz25_0 : w23.cell? ⟨gb102, 0, none⟩ = some (.int .i64 a1_0) := (blk_cell BK102.out 0).trans rfl; have hcz25_1 : w23.cell? ⟨gb102, 1, none⟩ = some (.int .i64 a1_1) := (blk_cell BK102.out 1).trans rfl; have hfz25_0 := blk_frozen BK102.out 0; have hfz25_1 := blk_frozen BK102.out 1)))
    go_ret
    exact ⟨by first | rfl | (simp [errW_none, errW_some] <;> rfl) | (simp [*, errW_none, errW_some] <;> rfl), by repeat (first | (with_reducible first | exact HB.out | apply below_alloc | apply pw_below_drewN | apply below_drew1 | refine below_set ?_ GE101.out | refine below_set ?_ GE102.out) | exact HB.out)⟩
end Go.Proofs.Ytjmeignhhheckaa.Q
namespace Go.Proofs.Ytjmeignhhheckaa.H
open Go.RowKit Go.Maps Go.Proofs.YtjmeignhhheckaaW.PrintWords Go.Proofs.YtjmeignhhheckaaW.PrintLast Go.Proofs.Ytjmeignhhheckaa.Q
set_option maxRecDepth 100000
def thereB (bs : List S36) (sb si : Int) : Bool := decide (0 ≤ sb ∧ sb < bs.length ∧ 0 ≤ si ∧ si ≤ (rd_T36 bs sb).f0.length)
theorem there_f (l0 : List Bool) (a1 : Int) (bs : List S36) (sb si : Int) : live_there.f l0 a1 bs sb si = some (thereB bs sb si) := by
  unfold live_there.f thereB
  by_cases h0 : sb ≥ 0
  · rw [if_pos h0]
    by_cases h1 : sb < bs.length
    · rw [if_pos h1]
      by_cases h2 : si ≥ 0
      · rw [if_pos h2, if_pos h0]
        congr 1
        exact decide_eq_decide.2 ⟨fun h => ⟨h0, h1, h2, h⟩, fun h => h.2.2.2⟩
      · rw [if_neg h2]
        congr 1
        exact (decide_eq_false (fun h => h2 h.2.2.1)).symm
    · rw [if_neg h1]
      congr 1
      exact (decide_eq_false (fun h => h1 h.2.1)).symm
  · rw [if_neg h0]
    congr 1
    exact (decide_eq_false (fun h => h0 h.1)).symm
theorem thereB_iff {bs : List S36} {sb si : Int} (h : thereB bs sb si = true) : 0 ≤ sb ∧ sb < bs.length ∧ 0 ≤ si ∧ si ≤ (rd_T36 bs sb).f0.length := of_decide_eq_true h
def atS (xs : List Bool) (sites : Int) (bs : List S36) (sb si : Int) : List Int × Int :=
  if gE xs sites bs ≠ 0 then ([], gE xs sites bs) else if thereB bs sb si then (listS (aheadW (rd_T36 bs sb) si.toNat (setsS bs)), 0) else ([], 1)
structure AFr (w : World) (G : Array Value) (sb si : Int) (wr : World) : Prop where
  b : Below w.heap.size w wr
  c0 : wr.heap[w.heap.size]? = some (.cells G 25 (0, 0))
  c1 : wr.heap[w.heap.size + 1]? = some (.cells #[.int .i64 sb, .int .i64 si] 41 (0, 0))
theorem AFr.below {w : World} {G : Array Value} {sb si : Int} {wr wr' : World} (h : AFr w G sb si wr) (hb : Below wr.heap.size wr wr') : AFr w G sb si wr' := ⟨below_step h.b hb, blk_below h.c0 hb, blk_below h.c1 hb⟩
theorem AFr.drew {w : World} {G : Array Value} {sb si : Int} {wr : World} (h : AFr w G sb si wr) : AFr w G sb si wr.drew := ⟨below_drew h.b, blk_drew h.c0, blk_drew h.c1⟩
theorem AFr.start (w : World) (G : Array Value) (sb si : Int) : AFr w G sb si ((w.alloc (.cells G 25)).alloc (.cells #[.int .i64 sb, .int .i64 si] 41)) :=
  ⟨below_alloc (below_alloc (Below.refl _ _) _) _, blk_alloc (blk_new _ _) _, by
    have := blk_new (w.alloc (.cells G 25)) (.cells #[.int .i64 sb, .int .i64 si] 41)
    rwa [show (w.alloc (.cells G 25)).heap.size = w.heap.size + 1 from by simp] at this⟩
theorem SR.lt {w : World} {g : Nat} {xs : List (List Nat)} (h : SR w g xs) : g < w.heap.size := by
  obtain ⟨C, hC, _⟩ := h.cells
  exact blk_lt hC
set_option maxHeartbeats 4000000 in
theorem at_calls (A0 A2 : Option Addr) (c0 c2 : Nat) (l0 : List Bool) (a1 : Int) (l2 : List S36) (sb si : Int) (w : World) (h0 : Kd.C Kd.bool w A0 l0.length l0) (hc0 : l0.length ≤ c0) (h2 : Kd.C k36 w A2 l2.length l2) (hc2 : l2.length ≤ c2) (hs : smallG l2) :
    Calls Try.prog 17 #[.agg #[.slice A0 l0.length c0, .int .i64 a1, .slice A2 l2.length c2], .agg #[.int .i64 sb, .int .i64 si]] w fun e w' => ∃ v : Value, e = .returned (.tuple #[v, .int .i64 (atS l0 a1 l2 sb si).2]) ∧ Kd.R (Kd.int .i64) 3 w' w.heap.size (fun _ => True) v (atS l0 a1 l2 sb si).1 ∧ Below w.heap.size w w' := by
  have HC0 := Lib.hid h0
  have HC := Lib.hid h2
  have HL0 := Lib.hid hc0
  have HL2 := Lib.hid hc2
  clear h0 h2 hc0 hc2
  have hu25 := Try.underlying25
  have hu41 := Try.underlying41
  have HF := Lib.hid (AFr.start w #[.slice A0 l0.length c0, .int .i64 a1, .slice A2 l2.length c2] sb si)
  by_cases hE : gE l0 a1 l2 = 0
  · have hcb : (gE l0 a1 l2 != 0) = false := by simpa using hE
    have HE := Lib.hid hE
    clear hE
    have G := gE_gok HE.out
    have hes : atS l0 a1 l2 sb si = if thereB l2 sb si then (listS (aheadW (rd_T36 l2 sb) si.toNat (setsS l2)), 0) else ([], 1) := by
      unfold atS
      rw [if_neg (by rw [HE.out]; decide)]
    rw [hes]
    clear hes
    cases htb : thereB l2 sb si with
    | false =>
      go_enter Try.func17, Try.ntmps17
      go_wp2_with (first | (go_at_call 56; go_loud (refine (check_calls (Kd.C_below HC0.out HF.out.b) HL0.out (Kd.C_below HC.out HF.out.b) HL2.out hs).mono ?_; rintro e w3 ⟨rfl, hb3⟩; have HF3 := Lib.hid (HF.out.below hb3); clear hb3; have g0 : w3.cell? ⟨w.heap.size, 0, none⟩ = some (.slice A0 l0.length c0) := (blk_cell HF3.out.c0 0).trans rfl; have g1 : w3.cell? ⟨w.heap.size, 1, none⟩ = some (.int .i64 a1) := (blk_cell HF3.out.c0 1).trans rfl; have g2 : w3.cell? ⟨w.heap.size, 2, none⟩ = some (.slice A2 l2.length c2) := (blk_cell HF3.out.c0 2).trans rfl; have s0 : w3.cell? ⟨w.heap.size + 1, 0, none⟩ = some (.int .i64 sb) := (blk_cell HF3.out.c1 0).trans rfl; have s1 : w3.cell? ⟨w.heap.size + 1, 1, none⟩ = some (.int .i64 si) := (blk_cell HF3.out.c1 1).trans rfl)) | (go_at_call 59; go_loud (refine (live_there.calls A0 c0 l0 a1 A2 c2 l2 sb si _ _ (Kd.C_below HC0.out HF3.out.b) HL0.out (Kd.C_below HC.out HF3.out.b) HL2.out ((there_f l0 a1 l2 sb si).trans (congrArg some htb))).mono ?_; rintro e w4 ⟨rfl, hb4⟩; have HF4 := Lib.hid (HF3.out.below hb4); clear hb4)))
      go_ret2
      exact ⟨.slice none 0 0, rfl, Kd.R_nil _ _ _ _ _, HF4.out.b⟩
    | true =>
      obtain ⟨t0, t1, t2, t3⟩ := thereB_iff htb
      obtain ⟨n, rfl⟩ := Int.eq_ofNat_of_zero_le t0
      obtain ⟨m, rfl⟩ := Int.eq_ofNat_of_zero_le t2
      rw [if_pos rfl, Int.toNat_natCast]
      dsimp only
      go_enter Try.func17, Try.ntmps17
      go_wp2_with (first | (go_at_call 56; go_loud (refine (check_calls (Kd.C_below HC0.out HF.out.b) HL0.out (Kd.C_below HC.out HF.out.b) HL2.out hs).mono ?_; rintro e w3 ⟨rfl, hb3⟩; have HF3 := Lib.hid (HF.out.below hb3); clear hb3; have g0 : w3.cell? ⟨w.heap.size, 0, none⟩ = some (.slice A0 l0.length c0) := (blk_cell HF3.out.c0 0).trans rfl; have g1 : w3.cell? ⟨w.heap.size, 1, none⟩ = some (.int .i64 a1) := (blk_cell HF3.out.c0 1).trans rfl; have g2 : w3.cell? ⟨w.heap.size, 2, none⟩ = some (.slice A2 l2.length c2) := (blk_cell HF3.out.c0 2).trans rfl; have s0 : w3.cell? ⟨w.heap.size + 1, 0, none⟩ = some (.int .i64 n) := (blk_cell HF3.out.c1 0).trans rfl; have s1 : w3.cell? ⟨w.heap.size + 1, 1, none⟩ = some (.int .i64 m) := (blk_cell HF3.out.c1 1).trans rfl)) | (go_at_call 59; go_loud (refine (live_there.calls A0 c0 l0 a1 A2 c2 l2 n m _ _ (Kd.C_below HC0.out HF3.out.b) HL0.out (Kd.C_below HC.out HF3.out.b) HL2.out ((there_f l0 a1 l2 n m).trans (congrArg some htb))).mono ?_; rintro e w4 ⟨rfl, hb4⟩; have HF4 := Lib.hid (HF3.out.below hb4); clear hb4)))
      clear g0 g1 g2 s0 s1
      have hblk := G.blk
      have hbk : blkOk l2.length (rd_T36 l2 (n : Nat)) := hblk _ (getD_mem (by omega))
      obtain ⟨ad2, A3, c3, hA, b0, b1, b2, b3, b4, hc3, hC3⟩ := at_T36 (Kd.C_below HC.out HF4.out.b) (n : Int) (by omega) (by omega)
      subst hA
      simp only [Int.toNat_natCast] at b0 b1 b2 b3 b4
      have HS := Lib.hid (setsS_spec hblk)
      have hm : m ≤ (rd_T36 l2 (n : Nat)).f0.length := by omega
      have HC3 := Lib.hid (Kd.C_drew hC3)
      have HC3l := Lib.hid hc3
      have HBK := Lib.hid hbk
      have HBL := Lib.hid hblk
      have HGN := Lib.hid (show l2.length ≤ 5000 from by have := G.nb; omega)
      clear hC3 hc3 hbk hblk t3
      generalize hbe : rd_T36 l2 (n : Nat) = bk at *
      have HBE := Lib.hid hbe
      clear hbe
      have g0 : w4.cell? ⟨w.heap.size, 0, none⟩ = some (.slice A0 l0.length c0) := (blk_cell HF4.out.c0 0).trans rfl
      have g1 : w4.cell? ⟨w.heap.size, 1, none⟩ = some (.int .i64 a1) := (blk_cell HF4.out.c0 1).trans rfl
      have g2 : w4.cell? ⟨w.heap.size, 2, none⟩ = some (.slice (some ad2) l2.length c2) := (blk_cell HF4.out.c0 2).trans rfl
      have s0 : w4.cell? ⟨w.heap.size + 1, 0, none⟩ = some (.int .i64 n) := (blk_cell HF4.out.c1 0).trans rfl
      have s1 : w4.cell? ⟨w.heap.size + 1, 1, none⟩ = some (.int .i64 m) := (blk_cell HF4.out.c1 1).trans rfl
      have hu23 := Try.underlying23
      have hu36 := Try.underlying36
      go_region_held3 (fun w' => w'.cell? ⟨w.heap.size, 0, none⟩ = some (.slice A0 l0.length c0) ∧ w'.cell? ⟨w.heap.size, 1, none⟩ = some (.int .i64 a1) ∧ w'.cell? ⟨w.heap.size, 2, none⟩ = some (.slice (some ad2) l2.length c2) ∧ w'.cell? ⟨w.heap.size + 1, 0, none⟩ = some (.int .i64 n) ∧ w'.cell? ⟨w.heap.size + 1, 1, none⟩ = some (.int .i64 m) ∧
          w'.cell? (ad2.add (n * 5)) = some (.slice A3 bk.f0.length c3) ∧ w'.cell? ⟨(ad2.add (n * 5)).block, (ad2.add (n * 5)).off + 1, none⟩ = some (.int .u8 bk.f1) ∧ w'.cell? ⟨(ad2.add (n * 5)).block, (ad2.add (n * 5)).off + 2, none⟩ = some (.int .i64 bk.f2) ∧ w'.cell? ⟨(ad2.add (n * 5)).block, (ad2.add (n * 5)).off + 3, none⟩ = some (.int .i64 bk.f3) ∧ w'.cell? ⟨(ad2.add (n * 5)).block, (ad2.add (n * 5)).off + 4, none⟩ = some (.int .i64 bk.f4))
        (first | go_keep | exact ⟨pw_cell_below HB5.out g0, pw_cell_below HB5.out g1, pw_cell_below HB5.out g2, pw_cell_below HB5.out s0, pw_cell_below HB5.out s1, pw_cell_below HB5.out b0, pw_cell_below HB5.out b1, pw_cell_below HB5.out b2, pw_cell_below HB5.out b3, pw_cell_below HB5.out b4⟩ | skip)
        (first | (go_at_call 57; refine (sets_any A0 (some ad2) c0 c2 a1 l0 l2 _ (Kd.C_below HC.out (by exact HF4.out.drew.b)) HL2.out HGN.out HBL.out).mono ?_; rintro e w5 ⟨rfl, hsr, hb5⟩; have HB5 := Lib.hid hb5; have HSR := Lib.hid hsr; clear hb5 hsr; have hah := ahead_calls A3 c3 bk m (w4.drew.heap.size + 1) l2.length (setsS l2) w5 (Kd.C_below HC3.out (by exact HB5.out)) HC3l.out HSR.out (SR.lt HSR.out) (by rw [HS.out.2.1.len]; exact Nat.le_refl _) (by rw [HS.out.2.1.len]; exact HBK.out.nx) HBK.out.br HBK.out.rg hm; rw [HS.out.2.1.len] at hah; have HAH := Lib.hid hah; clear hah) | (go_at_call 60; refine HAH.out.mono ?_; rintro e w6 ⟨rfl, hok, hb6⟩; have n0_ := Lib.hid (below_step HB5.out hb6); clear HB5; have HB5 := n0_; clear n0_; have HOK := Lib.hid hok; clear hb6 hok) | (go_at_call 58; refine (list_calls _ HOK.out _).mono ?_; rintro e w7 ⟨v7, rfl, hr7, hb7⟩; have HR7 := Lib.hid (Kd.R_lower hr7 (show w.heap.size ≤ w6.heap.size from (below_step HF4.out.drew.b HB5.out).size)); have n0_ := Lib.hid (below_step HB5.out hb7); clear HB5; have HB5 := n0_; clear n0_; clear hr7 hb7))
      go_wp2
      go_ret2
      exact ⟨v7, rfl, by rw [HBE.out]; exact HR7.out, below_step HF4.out.drew.b HB5.out⟩
  · have hcb : (gE l0 a1 l2 != 0) = true := by simpa using hE
    have HE := Lib.hid hE
    clear hE
    go_enter Try.func17, Try.ntmps17
    go_wp2_with (go_at_call 56; go_loud (refine (check_calls (Kd.C_below HC0.out HF.out.b) HL0.out (Kd.C_below HC.out HF.out.b) HL2.out hs).mono ?_; rintro e w3 ⟨rfl, hb3⟩; have HF3 := Lib.hid (HF.out.below hb3); clear hb3))
    go_ret2
    refine ⟨.slice none 0 0, ?_, ?_, HF3.out.b⟩
    · unfold atS
      rw [if_pos HE.out]
      rfl
    · unfold atS
      rw [if_pos HE.out]
      exact Kd.R_nil _ _ _ _ _
end Go.Proofs.Ytjmeignhhheckaa.H
namespace Go.Proofs.Ytjmeignhhheckaa.Q
open Go.RowKit Go.Proofs.YtjmeignhhheckaaW.PrintWords Go.Proofs.YtjmeignhhheckaaW.PrintLast
/-- live.At, where no block is too long -/
def live_At.f (l0 : List Bool) (a1 : Int) (bs : List S36) (sb si : Int) : Option (List Int × Int) := if H.smallG bs then some (H.atS l0 a1 bs sb si) else none
theorem live_At.calls (A0 : Option Addr) (c0 : Nat) (l0 : List Bool) (a1 : Int) (A2 : Option Addr) (c2 : Nat) (l2 : List S36) (sb si : Int) (r1 : List Int) (r2 : Int) (w : World) (h0 : Kd.C Kd.bool w A0 l0.length l0) (hc0 : l0.length ≤ c0) (h2 : Kd.C k36 w A2 l2.length l2) (hc2 : l2.length ≤ c2) (h : live_At.f l0 a1 l2 sb si = some (r1, r2)) :
    Calls Try.prog 17 #[.agg #[.slice A0 l0.length c0, .int .i64 a1, .slice A2 l2.length c2], .agg #[.int .i64 sb, .int .i64 si]] w fun e w' => ∃ v0_ : Value, e = .returned (.tuple #[v0_, .int .i64 r2]) ∧ Kd.R (Kd.int .i64) 3 w' w.heap.size (fun _ => True) v0_ r1 ∧ Below w.heap.size w w' := by
  unfold live_At.f at h
  split at h
  · rename_i hs
    have h := Option.some.inj h
    have := H.at_calls A0 A2 c0 c2 l0 a1 l2 sb si w h0 hc0 h2 hc2 hs
    rw [h] at this
    exact this
  · cases h
end Go.Proofs.Ytjmeignhhheckaa.Q
namespace Go.Proofs.Ytjmeignhhheckaa.H
open Go.RowKit Go.Maps Go.Proofs.YtjmeignhhheckaaW.PrintWords Go.Proofs.YtjmeignhhheckaaW.PrintLast Go.Proofs.Ytjmeignhhheckaa.Q
set_option maxRecDepth 100000
def inS (xs : List Bool) (sites : Int) (bs : List S36) : List (List Int) × Int := if gE xs sites bs ≠ 0 then ([], gE xs sites bs) else ((setsS bs).map listS, 0)
abbrev kRow : Kd (List Int) := Kd.slice 3 (Kd.int .i64)
structure IFr (w : World) (g : Nat) (xs : List (List Nat)) (v : Value) (rows : List (List Int)) (wr : World) : Prop where
  b : Below w.heap.size w wr
  si : SR wr g xs
  ro : Kd.S kRow 37 wr w.heap.size (fun _ => True) v rows
theorem IFr.below {w : World} {g : Nat} {xs : List (List Nat)} {v : Value} {rows : List (List Int)} {wr wr' : World} (h : IFr w g xs v rows wr) (hb : Below wr.heap.size wr wr') : IFr w g xs v rows wr' := ⟨below_step h.b hb, h.si.below hb h.si.lt, Kd.S_below h.ro hb⟩
theorem IFr.push {w : World} {g : Nat} {xs : List (List Nat)} {v v1 : Value} {rows rows2 : List (List Int)} {wr wr' : World} (h : IFr w g xs v rows wr) (hb : Below w.heap.size w wr') (hg : wr.grownBy wr' v.ownBlock) (hr : Kd.S kRow 37 wr' w.heap.size (fun _ => True) v1 rows2) : IFr w g xs v1 rows2 wr' := by
  refine ⟨hb, h.si.grown hg (fun e => ?_), hr⟩
  obtain ⟨cs, hcs⟩ := Kd.S_typed h.ro g e.symm
  obtain ⟨C, hC, _⟩ := h.si.cells
  rw [hC] at hcs
  cases hcs
theorem take_snoc_rows (l : List (List Nat)) (q : Nat) (h : q < l.length) : (l.map listS).take (q + 1) = (l.map listS).take q ++ [listS (l.getD q [])] := by
  rw [List.take_succ_eq_append_getElem (by simpa using h)]
  simp [h]
set_option maxHeartbeats 4000000 in
theorem in_calls (A0 A2 : Option Addr) (c0 c2 : Nat) (l0 : List Bool) (a1 : Int) (l2 : List S36) (w : World) (h0 : Kd.C Kd.bool w A0 l0.length l0) (hc0 : l0.length ≤ c0) (h2 : Kd.C k36 w A2 l2.length l2) (hc2 : l2.length ≤ c2) (hs : smallG l2) :
    Calls Try.prog 15 #[.agg #[.slice A0 l0.length c0, .int .i64 a1, .slice A2 l2.length c2]] w fun e w' => ∃ v : Value, e = .returned (.tuple #[v, .int .i64 (inS l0 a1 l2).2]) ∧ Kd.S kRow 37 w' w.heap.size (fun _ => True) v (inS l0 a1 l2).1 ∧ Below w.heap.size w w' := by
  have HC0 := Lib.hid h0
  have HC := Lib.hid h2
  have HL0 := Lib.hid hc0
  have HL2 := Lib.hid hc2
  clear h0 h2 hc0 hc2
  have hu25 := Try.underlying25
  have HF := Lib.hid (show Below w.heap.size w (w.alloc (.cells #[.slice A0 l0.length c0, .int .i64 a1, .slice A2 l2.length c2] 25)) ∧ (w.alloc (.cells #[.slice A0 l0.length c0, .int .i64 a1, .slice A2 l2.length c2] 25)).heap[w.heap.size]? = some (.cells #[.slice A0 l0.length c0, .int .i64 a1, .slice A2 l2.length c2] 25 (0, 0)) from ⟨below_alloc (Below.refl _ _) _, blk_new _ _⟩)
  by_cases hE : gE l0 a1 l2 = 0
  · have hcb : (gE l0 a1 l2 != 0) = false := by simpa using hE
    have HE := Lib.hid hE
    clear hE
    have G := gE_gok HE.out
    have hes : inS l0 a1 l2 = ((setsS l2).map listS, 0) := by
      unfold inS
      rw [if_neg (by rw [HE.out]; decide)]
    rw [hes]
    clear hes
    have hblk := G.blk
    have HS := Lib.hid (setsS_spec hblk)
    have HBL := Lib.hid hblk
    have hn5 : l2.length ≤ 5000 := by have := G.nb; omega
    clear hblk
    dsimp only
    go_enter Try.func15, Try.ntmps15
    go_wp2_with (first | (go_at_call 56; go_loud (refine (check_calls (Kd.C_below HC0.out HF.out.1) HL0.out (Kd.C_below HC.out HF.out.1) HL2.out hs).mono ?_; rintro e w3 ⟨rfl, hb3⟩; have HF3 := Lib.hid (And.intro (below_step HF.out.1 hb3) (blk_below HF.out.2 hb3)); clear hb3; have g0 : w3.cell? ⟨w.heap.size, 0, none⟩ = some (.slice A0 l0.length c0) := (blk_cell HF3.out.2 0).trans rfl; have g1 : w3.cell? ⟨w.heap.size, 1, none⟩ = some (.int .i64 a1) := (blk_cell HF3.out.2 1).trans rfl; have g2 : w3.cell? ⟨w.heap.size, 2, none⟩ = some (.slice A2 l2.length c2) := (blk_cell HF3.out.2 2).trans rfl)) | (go_at_call 57; go_loud (refine (sets_any A0 A2 c0 c2 a1 l0 l2 _ (Kd.C_below HC.out HF3.out.1) HL2.out hn5 HBL.out).mono ?_; rintro e w4 ⟨rfl, hsr, hb4⟩; have HI := Lib.hid (show IFr w (w3.heap.size + 1) (setsS l2) (.slice none 0 0) [] w4 from ⟨below_step HF3.out.1 hb4, hsr, Kd.S_nil _ _ _ _ _⟩); clear hb4 hsr)))
    clear g0 g1 g2 HF HF3
    generalize hgs : w3.heap.size + 1 = gs at *
    clear hgs
    go_loopw [5, 16] (fun v j wr => ∃ m : Nat, m ≤ l2.length ∧ j = .int .i64 m ∧ IFr w gs (setsS l2) v (((setsS l2).map listS).take m) wr) (fun _ j _ => l2.length - (intOf j).toNat)
    case atStart => exact ⟨0, Nat.zero_le _, rfl, HI.out⟩
    case round =>
      clear HI
      obtain ⟨m, hm, rfl, hI⟩ := hrel
      have HI := Lib.hid hI
      clear hI
      by_cases hlt : m < l2.length
      · have hlen := HS.out.2.1.len
        have hrg := HI.out.si.range m (by rw [hlen]; exact hlt)
        have hok := HI.out.si.okAt m (by rw [hlen]; exact hlt)
        have HTK := Lib.hid (take_snoc_rows (setsS l2) m (by rw [hlen]; exact hlt))
        have HLN := Lib.hid hlen
        clear hlen
        rw [Nat.mul_comm] at hrg
        generalize (setsS l2).getD m [] = x at *
        have hu94 := Try.underlying94
        go_upto_region 7 with fail
        refine wp_region_lit ?_
        iterate 1 (refine wpList_plain rfl (fun K hK => ?_); go_simp; refine hK _ _ ?_; clear hK K)
        refine wpList_load_mid rfl 98 (.tmp 18) rfl gs (m * 16) rfl (x.map wv) (.array 16 96) hrg Try.underlying98 rfl (by rw [size98, List.length_map, hok.1]) ?_
        clear hrg
        iterate 1 (refine wpList_plain rfl (fun K hK => ?_); go_simp; refine hK _ _ ?_; clear hK K)
        have HOK := Lib.hid hok
        have h16 : (x.map wv).toArray.size = 16 := by simp [hok.1]
        have HZ := Lib.hid (show SB (wr.alloc (.cells (zeroW.map wv).toArray 98)) wr.heap.size zeroW from blk_new wr _)
        refine wpList_store_mid rfl 98 (.tmp 7) (.tmp 19) rfl wr.heap.size 0 (x.map wv).toArray rfl rfl (by rw [h16]; exact HZ.out.there okW_zero) (by rw [size98]; simp [hok.1]) (by simp [wv, Value.oneCell']) ?_
        have HSN := Lib.hid (HZ.out.puts okW_zero hok)
        have HB3 := Lib.hid (((Below.refl _ wr).alloc (Nat.le_refl _) (.cells (zeroW.map wv).toArray 98)).grown (grown_puts wr.heap.size (x.map wv) 0 _) (by simp) (fun k hk => by cases hk; exact Nat.le_refl _))
        have HI3 := Lib.hid (HI.out.below HB3.out)
        have hz16 : (zeroW.map wv).toArray = #[.int .u64 0, .int .u64 0, .int .u64 0, .int .u64 0, .int .u64 0, .int .u64 0, .int .u64 0, .int .u64 0, .int .u64 0, .int .u64 0, .int .u64 0, .int .u64 0, .int .u64 0, .int .u64 0, .int .u64 0, .int .u64 0] := rfl
        rw [hz16] at HSN HI3
        go_upto_region 8 with fail
        clear HZ HB3 hz16 HI
        try rw [show (x.map wv).toArray.toList = x.map wv from by simp]
        generalize (wr.alloc (.cells #[.int .u64 0, .int .u64 0, .int .u64 0, .int .u64 0, .int .u64 0, .int .u64 0, .int .u64 0, .int .u64 0, .int .u64 0, .int .u64 0, .int .u64 0, .int .u64 0, .int .u64 0, .int .u64 0, .int .u64 0, .int .u64 0] 98)).setCells wr.heap.size 0 (List.map wv x) = w5 at *
        generalize wr.heap.size = ga at *
        refine wp_region_lit ?_
        iterate 1 (refine wpList_plain rfl (fun K hK => ?_); go_simp; refine hK _ _ ?_; clear hK K)
        refine wpList_load_row rfl 98 (.tmp 7) rfl ga rfl 98 (x.map wv).toArray (0, 0) (.array 16 96) HSN.out Try.underlying98 rfl (by rw [size98]; simp [HOK.out.1]) ?_
        refine wpList_plain rfl (fun K hK => ?_)
        go_simp
        refine (list_calls x HOK.out _).mono ?_
        rintro e w6 ⟨v6, rfl, hr6, hb6⟩
        obtain ⟨A6, c6, hv6⟩ := Kd.R_slice hr6
        subst hv6
        have HI6 := Lib.hid (HI3.out.below hb6)
        have HR6 := Lib.hid hr6
        have HLT := Lib.hid (fun k hk => Kd.S_lt HI3.out.ro k hk)
        have HSO := Lib.hid (Kd.S_below (Kd.S_mono (ok' := fun k => True ∧ ¬ w5.heap.size ≤ k) (Kd.S_bound HI3.out.ro) (fun k hk => ⟨trivial, Nat.not_le.2 hk.2.2.1⟩)) hb6)
        have HBB := Lib.hid HI3.out.b.size
        refine hK _ _ ?_
        clear hK K hb6 hr6 HI3
        have hu28 := Try.underlying28
        have hu37 := Try.underlying37
        iterate 1 (refine wpList_plain rfl (fun K hK => ?_); go_simp; refine hK _ _ ?_; clear hK K)
        refine Kd.S_append kRow (w0 := w) w.heap.size rfl (.tmp 20) (.tmp 23) 28 37 (.slice none 0 0) 24 rfl Try.underlying28 infoS37 rfl (by decide) (by decide) u5 (((setsS l2).map listS).take m) (listS x) [.slice A6 (listS x).length c6] (fun _ => True) (fun k => w5.heap.size ≤ k) rfl rfl ?aP ?aK ?aF ?aO ?aB ?aS ?aL ?_
        case aP => exact ⟨_, rfl, Kd.R_mono (Kd.R_lower (Kd.R_bound HR6.out) HBB.out) (fun k hk => hk.2.1)⟩
        case aK => exact fun k hk => ⟨trivial, fun e => by have := HLT.out k e.symm; omega⟩
        case aF => exact fun _ _ => trivial
        case aO => exact HSO.out
        case aB => exact HI6.out.b
        case aS => exact HI6.out.b.size
        case aL => rw [List.length_take]; omega
        intro v1 w7 hR1 hb1 hg1 hat1
        have HI7 := Lib.hid (HI6.out.push hb1 hg1 hR1)
        clear hR1 hb1 hg1 hat1
        go_wp2
        go_roundw
        case rel =>
          refine ⟨m + 1, by omega, by go_num, ?_⟩
          rw [HTK.out]
          exact HI7.out
        case measure => simp [intOf]; omega
      · have hme : m = l2.length := by omega
        subst hme
        have hall : ((setsS l2).map listS).take l2.length = (setsS l2).map listS := List.take_of_length_le (by rw [List.length_map, HS.out.2.1.len]; exact Nat.le_refl _)
        rw [hall] at HI
        clear hall
        go_wp2
        go_ret2
        exact ⟨u5, rfl, HI.out.ro, HI.out.b⟩
  · have hcb : (gE l0 a1 l2 != 0) = true := by simpa using hE
    have HE := Lib.hid hE
    clear hE
    go_enter Try.func15, Try.ntmps15
    go_wp2_with (go_at_call 56; go_loud (refine (check_calls (Kd.C_below HC0.out HF.out.1) HL0.out (Kd.C_below HC.out HF.out.1) HL2.out hs).mono ?_; rintro e w3 ⟨rfl, hb3⟩; have HF3 := Lib.hid (below_step HF.out.1 hb3); clear hb3))
    go_ret2
    refine ⟨.slice none 0 0, ?_, ?_, HF3.out⟩
    · unfold inS
      rw [if_pos HE.out]
      rfl
    · unfold inS
      rw [if_pos HE.out]
      exact Kd.S_nil _ _ _ _ _
end Go.Proofs.Ytjmeignhhheckaa.H
namespace Go.Proofs.Ytjmeignhhheckaa.Q
open Go.RowKit Go.Proofs.YtjmeignhhheckaaW.PrintWords Go.Proofs.YtjmeignhhheckaaW.PrintLast
/-- live.In, where no block is too long -/
def live_In.f (l0 : List Bool) (a1 : Int) (bs : List S36) : Option (List (List Int) × Int) := if H.smallG bs then some (H.inS l0 a1 bs) else none
theorem live_In.calls (A0 : Option Addr) (c0 : Nat) (l0 : List Bool) (a1 : Int) (A2 : Option Addr) (c2 : Nat) (l2 : List S36) (r1 : List (List Int)) (r2 : Int) (w : World) (h0 : Kd.C Kd.bool w A0 l0.length l0) (hc0 : l0.length ≤ c0) (h2 : Kd.C k36 w A2 l2.length l2) (hc2 : l2.length ≤ c2) (h : live_In.f l0 a1 l2 = some (r1, r2)) :
    Calls Try.prog 15 #[.agg #[.slice A0 l0.length c0, .int .i64 a1, .slice A2 l2.length c2]] w fun e w' => ∃ v0_ : Value, e = .returned (.tuple #[v0_, .int .i64 r2]) ∧ Kd.S (Kd.slice 3 (Kd.int .i64)) 37 w' w.heap.size (fun _ => True) v0_ r1 ∧ Below w.heap.size w w' := by
  unfold live_In.f at h
  split at h
  · rename_i hs
    have h := Option.some.inj h
    have := H.in_calls A0 A2 c0 c2 l0 a1 l2 w h0 hc0 h2 hc2 hs
    rw [h] at this
    exact this
  · cases h
end Go.Proofs.Ytjmeignhhheckaa.Q
namespace Go.Proofs.Ytjmeignhhheckaa.H
open Go.RowKit Go.Maps Go.Proofs.YtjmeignhhheckaaW.PrintWords Go.Proofs.YtjmeignhhheckaaW.PrintLast Go.Proofs.Ytjmeignhhheckaa.Q
set_option maxRecDepth 100000
def alongIns : List S46 → List Nat → Bool × List Nat
  | [], s => (false, s)
  | i :: r, s => if i.f0 = 14 then (true, s) else alongIns r (if (chgS i).2 then putW s (chgS i).1.toNat else s)
def alongTo (f : Int → List Nat → List Bool → List Nat × List Bool) : List Int → List Nat → List Bool → List Nat × List Bool
  | [], ch, met => (ch, met)
  | t :: ts, ch, met => if rdOf false met t then alongTo f ts ch met else alongTo f ts (f t ch (met.set t.toNat true)).1 (f t ch (met.set t.toNat true)).2
def alongS (bs : List S36) : Nat → Int → Nat → List Nat → List Bool → List Nat × List Bool
  | 0, _, _, ch, met => (ch, met)
  | k + 1, b, from', ch, met =>
    if (alongIns ((rd_T36 bs b).f0.drop from') ch).1 then ((alongIns ((rd_T36 bs b).f0.drop from') ch).2, met)
    else alongTo (fun t ch met => alongS bs k t 0 ch met) (nexts (rd_T36 bs b)) (alongIns ((rd_T36 bs b).f0.drop from') ch).2 met
structure Gr2 (p q : Nat) (w w' : World) : Prop where
  os : w'.os = w.os
  tape : w'.tape = w.tape
  output : w'.output = w.output
  size : w.heap.size ≤ w'.heap.size
  block : ∀ k, k < w.heap.size → k ≠ p → k ≠ q → w'.heap[k]? = w.heap[k]?
theorem Gr2.refl (p q : Nat) (w : World) : Gr2 p q w w := ⟨rfl, rfl, rfl, Nat.le_refl _, fun _ _ _ _ => rfl⟩
theorem Gr2.trans {p q : Nat} {a b c : World} (h : Gr2 p q a b) (h2 : Gr2 p q b c) : Gr2 p q a c :=
  ⟨h2.os.trans h.os, h2.tape.trans h.tape, h2.output.trans h.output, Nat.le_trans h.size h2.size, fun k hk h3 h4 => (h2.block k (Nat.lt_of_lt_of_le hk h.size) h3 h4).trans (h.block k hk h3 h4)⟩
theorem Gr2.ofBelow {p q : Nat} {a b : World} (h : Below a.heap.size a b) : Gr2 p q a b := ⟨h.os, h.tape, h.output, h.size, fun k hk _ _ => h.block k hk⟩
theorem Gr2.ofP {p q : Nat} {a b : World} (h : a.grownBy b (some p)) : Gr2 p q a b := ⟨h.os, h.tape, h.output, h.size, fun k hk h1 _ => h.block k hk (fun e => h1 (Option.some.inj e))⟩
theorem Gr2.ofQ {p q : Nat} {a b : World} (h : a.grownBy b (some q)) : Gr2 p q a b := ⟨h.os, h.tape, h.output, h.size, fun k hk _ h2 => h.block k hk (fun e => h2 (Option.some.inj e))⟩
theorem Gr2.below {p q n : Nat} {w a b : World} (h : Below n w a) (hn : n ≤ a.heap.size) (hg : Gr2 p q a b) (hp : n ≤ p) (hq : n ≤ q) : Below n w b :=
  ⟨hg.os.trans h.os, hg.tape.trans h.tape, hg.output.trans h.output, Nat.le_trans h.size hg.size, fun k hk => (hg.block k (by omega) (by omega) (by omega)).trans (h.block k hk)⟩
structure AlW (w0 : World) (gB cB mB mv aB n c0 c2 x0 : Nat) (A0 A2 : Option Addr) (a1 : Int) (ch : List Nat) (met : List Bool) (w : World) : Prop where
  b : Below w0.heap.size w0 w
  g : w.heap[gB]? = some (.cells #[.slice A0 x0 c0, .int .i64 a1, .slice A2 n c2] 25 (0, 0))
  c : SB w cB ch
  m : w.heap[mB]? = some (.cells #[.slice (some ⟨mv, 0, none⟩) n n] 22 (0, 0))
  v : BB w mv met
  a : w.heap[aB]? = some (.cells #[.func (.func 61) #[] #[.pointer (some ⟨gB, 0, none⟩), .pointer (some ⟨cB, 0, none⟩), .pointer (some ⟨mB, 0, none⟩), .pointer (some ⟨aB, 0, none⟩)]] 101 (0, 0))
  ok : okW ch
  ml : met.length = n
  hc : w0.heap.size ≤ cB
  hm : w0.heap.size ≤ mv
theorem types_ne {w : World} {g1 g2 t1 t2 : Nat} {C1 C2 : Array Value} (h1 : w.heap[g1]? = some (.cells C1 t1 (0, 0))) (h2 : w.heap[g2]? = some (.cells C2 t2 (0, 0))) (ht : t1 ≠ t2) : g1 ≠ g2 := by
  intro e
  subst e
  rw [h1] at h2
  have h3 := Option.some.inj h2
  injection h3 with _ e3 _
  exact ht e3
section
variable {w0 : World} {gB cB mB mv aB n c0 c2 x0 : Nat} {A0 A2 : Option Addr} {a1 : Int} {ch ch' : List Nat} {met met' : List Bool} {w w' : World}
theorem AlW.ne (h : AlW w0 gB cB mB mv aB n c0 c2 x0 A0 A2 a1 ch met w) : gB ≠ cB ∧ gB ≠ mv ∧ mB ≠ cB ∧ mB ≠ mv ∧ aB ≠ cB ∧ aB ≠ mv ∧ cB ≠ mv := by
  have hg := h.g; have hc := h.c; have hm := h.m; have hv := h.v; have ha := h.a
  unfold SB at hc
  unfold BB at hv
  exact ⟨types_ne hg hc (by decide), types_ne hg hv (by decide), types_ne hm hc (by decide), types_ne hm hv (by decide), types_ne ha hc (by decide), types_ne ha hv (by decide), types_ne hc hv (by decide)⟩
theorem AlW.step (h : AlW w0 gB cB mB mv aB n c0 c2 x0 A0 A2 a1 ch met w) (hg : Gr2 cB mv w w') (hc : SB w' cB ch') (hv : BB w' mv met') (ok : okW ch') (ml : met'.length = n) : AlW w0 gB cB mB mv aB n c0 c2 x0 A0 A2 a1 ch' met' w' := by
  obtain ⟨h1, h2, h3, h4, h5, h6, _⟩ := h.ne
  exact ⟨Gr2.below h.b h.b.size hg h.hc h.hm, (hg.block _ (blk_lt h.g) h1 h2).trans h.g, hc, (hg.block _ (blk_lt h.m) h3 h4).trans h.m, hv, (hg.block _ (blk_lt h.a) h5 h6).trans h.a, ok, ml, h.hc, h.hm⟩
theorem AlW.below (h : AlW w0 gB cB mB mv aB n c0 c2 x0 A0 A2 a1 ch met w) (hb : Below w.heap.size w w') : AlW w0 gB cB mB mv aB n c0 c2 x0 A0 A2 a1 ch met w' :=
  h.step (Gr2.ofBelow hb) (blk_below h.c hb) (blk_below h.v hb) h.ok h.ml
theorem AlW.put (h : AlW w0 gB cB mB mv aB n c0 c2 x0 A0 A2 a1 ch met w) (hg : w.grownBy w' (some cB)) (hc : SB w' cB ch') (ok : okW ch') : AlW w0 gB cB mB mv aB n c0 c2 x0 A0 A2 a1 ch' met w' :=
  h.step (Gr2.ofP hg) hc (blk_grown h.v hg (fun e => h.ne.2.2.2.2.2.2 (Option.some.inj e).symm)) ok h.ml
theorem AlW.meet (h : AlW w0 gB cB mB mv aB n c0 c2 x0 A0 A2 a1 ch met w) (t : Nat) (ht : t < n) : AlW w0 gB cB mB mv aB n c0 c2 x0 A0 A2 a1 ch (met.set t true) (w.setCell ⟨mv, t, none⟩ (.bool true)) ∧ Gr2 cB mv w (w.setCell ⟨mv, t, none⟩ (.bool true)) := by
  have hg : w.grownBy (w.setCell ⟨mv, t, none⟩ (.bool true)) (some mv) := grown_put1 t _
  refine ⟨h.step (Gr2.ofQ hg) (h.c.grown hg (fun e => h.ne.2.2.2.2.2.2 (Option.some.inj e))) ?_ h.ok (by rw [List.length_set]; exact h.ml), Gr2.ofQ hg⟩
  refine blk_put h.v t _ ?_
  apply Array.ext'
  simp [Array.toList_setIfInBounds, List.map_set]
end
theorem unset_up {met : List Bool} (n : Nat) : unset (met.set n true) ≤ unset met := by
  unfold unset
  induction met generalizing n with
  | nil => simp
  | cons x l ih =>
    cases n with
    | zero => cases x <;> simp
    | succ n =>
      have := ih n
      simp only [List.set_cons_succ, List.countP_cons]
      omega
theorem alongTo_unset (f : Int → List Nat → List Bool → List Nat × List Bool) (hf : ∀ t ch met, unset (f t ch met).2 ≤ unset met) : ∀ (l : List Int) (ch : List Nat) (met : List Bool), unset (alongTo f l ch met).2 ≤ unset met := by
  intro l
  induction l with
  | nil => intro ch met; exact Nat.le_refl _
  | cons t l ih =>
    intro ch met
    simp only [alongTo]
    split
    · exact ih _ _
    · refine Nat.le_trans (ih _ _) (Nat.le_trans (hf _ _ _) (unset_up _))
theorem alongS_unset (bs : List S36) : ∀ (k : Nat) (b : Int) (fr : Nat) (ch : List Nat) (met : List Bool), unset (alongS bs k b fr ch met).2 ≤ unset met := by
  intro k
  induction k with
  | zero => intro b fr ch met; exact Nat.le_refl _
  | succ k ih =>
    intro b fr ch met
    simp only [alongS]
    split
    · exact Nat.le_refl _
    · exact alongTo_unset _ (fun t ch met => ih t 0 ch met) _ _ _
theorem RI.gr {w0 : World} {gB cB mB mv aB n c0 c2 x0 : Nat} {A0 A2 : Option Addr} {a1 : Int} {ch : List Nat} {met : List Bool} {w w' : World} {base : Nat} {v : Value} {xs : List Int} (h : RI w base v xs) (hg : Gr2 cB mv w w') (hA : AlW w0 gB cB mB mv aB n c0 c2 x0 A0 A2 a1 ch met w) : RI w' base v xs :=
  h.move fun k hk => by
    obtain ⟨cs, hcs⟩ := h.typed k hk
    exact hg.block k (h.lt k hk) (types_ne hcs hA.c (by decide)) (types_ne hcs hA.v (by decide))
set_option maxHeartbeats 8000000 in
theorem along_calls (w0 : World) (gB cB mB mv aB c0 c2 x0 : Nat) (A0 A2 : Option Addr) (a1 : Int) (bs : List S36) (hC : Kd.C k36 w0 A2 bs.length bs) (hBL : ∀ x ∈ bs, blkOk bs.length x) (hn5 : bs.length ≤ 5000) :
    ∀ (k bn fr : Nat) (ch : List Nat) (met : List Bool) (w : World), unset met < k → bn < bs.length → fr ≤ (rd_T36 bs (bn : Nat)).f0.length → (rd_T36 bs (bn : Nat)).f0.length ≤ 100000 → (∀ x ∈ bs, x.f0.length ≤ 100000) → AlW w0 gB cB mB mv aB bs.length c0 c2 x0 A0 A2 a1 ch met w →
      Calls Try.prog 61 #[.int .i64 bn, .int .i64 fr, .pointer (some ⟨gB, 0, none⟩), .pointer (some ⟨cB, 0, none⟩), .pointer (some ⟨mB, 0, none⟩), .pointer (some ⟨aB, 0, none⟩)] w fun e w' => e = .returned (.tuple #[]) ∧ AlW w0 gB cB mB mv aB bs.length c0 c2 x0 A0 A2 a1 (alongS bs k bn fr ch met).1 (alongS bs k bn fr ch met).2 w' ∧ Gr2 cB mv w w' := by
  have HC := Lib.hid hC
  have HBL := Lib.hid hBL
  clear hC hBL
  intro k
  induction k with
  | zero => intro bn fr ch met w hu; omega
  | succ k ih =>
    intro bn fr ch met w hu hbn hfr hl5 hl6 hA
    have IH := Lib.hid ih
    have HA := Lib.hid hA
    have HL6 := Lib.hid hl6
    clear ih hA hl6
    have HAT := Lib.hid (fun W (hb : Below w0.heap.size w0 W) => at_T36 (Kd.C_below HC.out hb) (bn : Int) (by omega) (by omega))
    have HBK := Lib.hid (show blkOk bs.length (rd_T36 bs (bn : Nat)) from HBL.out _ (getD_mem (by omega)))
    have HE := Lib.hid (show alongS bs (k + 1) (bn : Nat) fr ch met = if (alongIns ((rd_T36 bs (bn : Nat)).f0.drop fr) ch).1 then ((alongIns ((rd_T36 bs (bn : Nat)).f0.drop fr) ch).2, met) else alongTo (fun t ch met => alongS bs k t 0 ch met) (nexts (rd_T36 bs (bn : Nat))) (alongIns ((rd_T36 bs (bn : Nat)).f0.drop fr) ch).2 met from rfl)
    generalize alongS bs (k + 1) (bn : Nat) fr ch met = res at *
    generalize rd_T36 bs (bn : Nat) = bk at *
    obtain ⟨ad2, A3, c3, hAd, e0, e1, e2, e3, e4, hc3, hC3⟩ := HAT.out w0 (Below.refl _ _)
    subst hAd
    simp only [Int.toNat_natCast] at e0 e1 e2 e3 e4
    have HEC := Lib.hid (And.intro e0 (And.intro e1 (And.intro e2 (And.intro e3 e4))))
    have HC3 := Lib.hid hC3
    have HC3l := Lib.hid hc3
    clear HAT e1 e2 e3 e4
    have b0 := pw_cell_below HA.out.b e0
    clear e0
    obtain ⟨AS, hcut, hDR⟩ : ∃ AS : Option Addr, (∀ W : World, (Instr.slice 33 (.slice A3 bk.f0.length c3) (some (.int .i64 fr)) none none).run Try.prog W = .ok (.slice AS (bk.f0.drop fr).length (c3 - fr)) W) ∧ Kd.C k46 w0 AS (bk.f0.drop fr).length (bk.f0.drop fr) := by
      obtain ⟨i, hi, hzz⟩ := Option.map_eq_some_iff.1 info46
      simp only [Prod.mk.injEq] at hzz
      refine ⟨if c3 = fr then A3 else A3.map (·.add (fr * 6)), fun W => ?_, Kd.C_drop hC3 hfr hc3⟩
      have := cut_from (P := Try.prog) 33 46 .i64 Try.underlying33 hi 6 hzz.2.1 A3 bk.f0.length c3 (fr : Int) (by omega) (by omega) W
      rw [Int.toNat_natCast] at this
      rw [List.length_drop]
      exact this
    have HDR := Lib.hid hDR
    have HRG := Lib.hid (show ∀ x ∈ bk.f0.drop fr, regOk x from fun x hx => HBK.out.rg x (List.mem_of_mem_drop hx))
    have hll : (bk.f0.drop fr).length ≤ 100000 := by rw [List.length_drop]; omega
    clear hC3 hc3 hDR
    generalize bk.f0.drop fr = l at *
    have g2 : w.cell? ⟨gB, 2, none⟩ = some (.slice (some ad2) bs.length c2) := (blk_cell HA.out.g 2).trans rfl
    have hu33 := Try.underlying33
    have hu23 := Try.underlying23
    have hu25 := Try.underlying25
    have hu36 := Try.underlying36
    have hu46 := Try.underlying46
    go_enter Try.func61, Try.ntmps61
    go_wp2_with fail
    clear hcut b0 g2
    go_loopw [23] (fun j wr => ∃ (m : Nat) (ch1 : List Nat), m ≤ l.length ∧ j = .int .i64 m ∧ AlW w0 gB cB mB mv aB bs.length c0 c2 x0 A0 (some ad2) a1 ch1 met wr ∧ Gr2 cB mv w wr ∧ alongIns (l.drop m) ch1 = alongIns l ch) (fun j _ => l.length - (intOf j).toNat)
    case atStart => exact ⟨0, ch, Nat.zero_le _, rfl, HA.out, Gr2.refl _ _ _, rfl⟩
    case round =>
      obtain ⟨m, ch1, hm, rfl, hA, hG, hal⟩ := hrel
      have HA1 := Lib.hid hA
      have HG1 := Lib.hid hG
      have HD1 := Lib.hid (Kd.C_below HDR.out hA.b)
      have HAL := Lib.hid hal
      clear hA hG hal
      by_cases hlt : m < l.length
      · obtain ⟨ad6, hA6, d0, d1, d2, d3, d4, d5⟩ := at_T46 HD1.out (m : Int) (by omega) (by omega)
        subst hA6
        simp only [Int.toNat_natCast] at d0 d1 d2 d3 d4 d5
        have HRX := Lib.hid (show regOk (rd_T46 l (m : Nat)) from HRG.out _ (getD_mem (by omega)))
        have HDP := Lib.hid (show l.drop m = rd_T46 l (m : Nat) :: l.drop (m + 1) from drop46 l m hlt)
        generalize rd_T46 l (m : Nat) = x at *
        have HAX := Lib.hid (show alongIns (l.drop m) ch1 = if x.f0 = 14 then (true, ch1) else alongIns (l.drop (m + 1)) (if (chgS x).2 then putW ch1 (chgS x).1.toNat else ch1) from by rw [HDP.out]; rfl)
        have HB0 := Lib.hid ((Below.refl wr.heap.size wr).alloc (Nat.le_refl _) (.cells #[.int .u8 x.f0, .int .u8 x.f1, .int .i64 x.f2, .int .i64 x.f3, .int .i64 x.f4, .int .i64 x.f5] 46))
        by_cases h14 : x.f0 = 14
        · have hb14 : (x.f0 == 14) = true := by simpa using h14
          have H14 := Lib.hid h14
          clear h14
          go_wp2_with fail
          have hres : res = (ch1, met) := by
            rw [HE.out, ← HAL.out, HAX.out, if_pos H14.out]; rfl
          rw [hres]
          refine bodyPost_ret (results_none rfl _ _ _) rfl ⟨rfl, HA1.out.below HB0.out, HG1.out.trans (Gr2.ofBelow HB0.out)⟩
        · have hb14 : (x.f0 == 14) = false := by simpa using h14
          have H14 := Lib.hid h14
          clear h14
          cases hc2 : (chgS x).2 with
          | true =>
            have hrx := HRX.out.1 hc2
            obtain ⟨r, hr⟩ := Int.eq_ofNat_of_zero_le hrx.1
            have hr2 : r < 1024 := by omega
            have HR := Lib.hid hr
            have HAY := Lib.hid (show alongIns (l.drop (m + 1)) (putW ch1 r) = alongIns l ch from by
              have h := HAX.out
              rw [if_neg H14.out, hc2, if_pos rfl, hr, Int.toNat_natCast] at h
              rw [← h]; exact HAL.out)
            clear hrx hr
            have HCG := Lib.hid (show ∀ w, Calls Try.prog 62 #[.agg #[.int .u8 x.f0, .int .u8 x.f1, .int .i64 x.f2, .int .i64 x.f3, .int .i64 x.f4, .int .i64 x.f5]] w fun e w' => e = .returned (.tuple #[.int .i64 (r : Int), .bool true]) ∧ Below w.heap.size w w' from fun w => by
              have h := chg_calls x w
              rw [HR.out, hc2] at h
              exact h)
            clear hc2
            go_wp2_with (first | (go_at_call 62; go_loud (refine (HCG.out _).mono ?_; rintro e w2 ⟨rfl, hb2⟩; have HA2 := Lib.hid ((HA1.out.below HB0.out).below hb2); have HG2 := Lib.hid ((HG1.out.trans (Gr2.ofBelow HB0.out)).trans (Gr2.ofBelow hb2)); clear hb2)) | (go_at_call 63; go_loud (refine (put_calls cB r ch1 _ HA2.out.c HA2.out.ok hr2).mono ?_; rintro e w3 ⟨rfl, hs3, hg3⟩; have HA3 := Lib.hid (HA2.out.put hg3 hs3 (okW_putW HA2.out.ok _)); have HG3 := Lib.hid (HG2.out.trans (Gr2.ofP hg3)); clear hs3 hg3)))
            go_roundw
            case rel => exact ⟨m + 1, _, by omega, by go_num, HA3.out, HG3.out, HAY.out⟩
            case measure => simp [intOf]; omega
          | false =>
            have HAY := Lib.hid (show alongIns (l.drop (m + 1)) ch1 = alongIns l ch from by
              have h := HAX.out
              rw [if_neg H14.out, hc2] at h
              rw [← HAL.out]; exact h.symm)
            have HCG := Lib.hid (show ∀ w, Calls Try.prog 62 #[.agg #[.int .u8 x.f0, .int .u8 x.f1, .int .i64 x.f2, .int .i64 x.f3, .int .i64 x.f4, .int .i64 x.f5]] w fun e w' => e = .returned (.tuple #[.int .i64 (chgS x).1, .bool false]) ∧ Below w.heap.size w w' from fun w => by
              have h := chg_calls x w
              rw [hc2] at h
              exact h)
            clear hc2
            go_wp2_with (go_at_call 62; go_loud (refine (HCG.out _).mono ?_; rintro e w2 ⟨rfl, hb2⟩; have HA2 := Lib.hid ((HA1.out.below HB0.out).below hb2); have HG2 := Lib.hid ((HG1.out.trans (Gr2.ofBelow HB0.out)).trans (Gr2.ofBelow hb2)); clear hb2))
            go_roundw
            case rel => exact ⟨m + 1, _, by omega, by go_num, HA2.out, HG2.out, HAY.out⟩
            case measure => simp [intOf]; omega
      · have hme : m = l.length := by omega
        subst hme
        have hres : res = alongTo (fun t ch met => alongS bs k t 0 ch met) (nexts bk) ch1 met := by
          have h : alongIns l ch = (false, ch1) := by rw [← HAL.out, List.drop_length]; rfl
          rw [HE.out, h]; rfl
        have HRES := Lib.hid hres
        clear hres HAL HE
        have b0 := pw_cell_below HA1.out.b HEC.out.1
        have b1 := pw_cell_below HA1.out.b HEC.out.2.1
        have b2 := pw_cell_below HA1.out.b HEC.out.2.2.1
        have b3 := pw_cell_below HA1.out.b HEC.out.2.2.2.1
        have b4 := pw_cell_below HA1.out.b HEC.out.2.2.2.2
        have g2 : wr.cell? ⟨gB, 2, none⟩ = some (.slice (some ad2) bs.length c2) := (blk_cell HA1.out.g 2).trans rfl
        go_wp2_with (go_at_call 64; go_loud (refine (next_calls A3 c3 bk _ (Kd.C_below HC3.out HA1.out.b) HC3l.out).mono ?_; rintro e w1 ⟨v, rfl, hR1, hb1⟩; have HA2 := Lib.hid (HA1.out.below hb1); have HG2 := Lib.hid (HG1.out.trans (Gr2.ofBelow hb1)); have HN := Lib.hid (Kd.R_lower hR1 (Nat.zero_le _)); obtain ⟨A5, c5, hv5⟩ := Kd.R_slice hR1; subst hv5; clear hb1 hR1))
        have hn2 := nexts_len bk
        go_loopw [46] (fun j wr => ∃ (m : Nat) (ch2 : List Nat) (met2 : List Bool), m ≤ (nexts bk).length ∧ j = .int .i64 m ∧ AlW w0 gB cB mB mv aB bs.length c0 c2 x0 A0 (some ad2) a1 ch2 met2 wr ∧ Gr2 cB mv w wr ∧ RI wr 0 (.slice A5 (nexts bk).length c5) (nexts bk) ∧ alongTo (fun t ch met => alongS bs k t 0 ch met) ((nexts bk).drop m) ch2 met2 = res ∧ unset met2 ≤ unset met) (fun j _ => (nexts bk).length - (intOf j).toNat)
        case atStart => exact ⟨0, ch1, met, Nat.zero_le _, rfl, HA2.out, HG2.out, HN.out, HRES.out.symm, Nat.le_refl _⟩
        case round =>
          clear HA2 HG2 HN HRES HA1 HG1 HA HDR HRG HD1 b0 b1 b2 b3 b4 g2
          obtain ⟨m, ch2, met2, hm, rfl, hA, hG, hN, hal, hun⟩ := hrel
          have HA1 := Lib.hid hA
          have HG1 := Lib.hid hG
          have HN1 := Lib.hid hN
          have HAL := Lib.hid hal
          have HUN := Lib.hid hun
          clear hA hG hN hal hun
          by_cases hlt : m < (nexts bk).length
          · obtain ⟨A6, c6, hv6, hc6, hC6⟩ := Kd.R_reads HN1.out
            have hA6 : A6 = A5 := by injection hv6 with e; exact e.symm
            subst hA6
            obtain ⟨ad6, hA6, f0⟩ := Kd.at_int hC6 (m : Int) (by omega) (by omega)
            subst hA6
            simp only [Int.toNat_natCast] at f0
            clear hC6 hv6 hc6
            have HT := Lib.hid (HBK.out.nx (rd (nexts bk) m) (by unfold rd; exact getD_mem (by omega)))
            have HDP := Lib.hid (show (nexts bk).drop m = rd (nexts bk) m :: (nexts bk).drop (m + 1) from drop_at (nexts bk) m 0 hlt)
            generalize rd (nexts bk) m = t at *
            obtain ⟨tn, rfl⟩ := Int.eq_ofNat_of_zero_le HT.out.1
            have htl : tn < bs.length := by have := HT.out.2; omega
            have m0 : wr.cell? ⟨mB, 0, none⟩ = some (.slice (some ⟨mv, 0, none⟩) bs.length bs.length) := (blk_cell HA1.out.m 0).trans rfl
            have hml := HA1.out.ml
            have v0 : wr.cell? ⟨mv, tn, none⟩ = some (.bool (rdOf false met2 tn)) := by
              rw [blk_cell HA1.out.v]
              simp [rdOf, hml, htl]
            have vf := blk_frozen HA1.out.v tn
            have a0 : wr.cell? ⟨aB, 0, none⟩ = some (.func (.func 61) #[] #[.pointer (some ⟨gB, 0, none⟩), .pointer (some ⟨cB, 0, none⟩), .pointer (some ⟨mB, 0, none⟩), .pointer (some ⟨aB, 0, none⟩)]) := (blk_cell HA1.out.a 0).trans rfl
            have hu22 := Try.underlying22
            have hu37 := Try.underlying37
            clear hml
            cases hq : rdOf false met2 (tn : Nat) with
            | true =>
              have HAY := Lib.hid (show alongTo (fun t ch met => alongS bs k t 0 ch met) ((nexts bk).drop (m + 1)) ch2 met2 = res from by
                rw [← HAL.out, HDP.out]; simp only [alongTo, hq, if_true])
              rw [hq] at v0
              clear hq
              go_wp2_with fail
              go_roundw
              case rel => exact ⟨m + 1, ch2, met2, by omega, by go_num, HA1.out, HG1.out, HN1.out, HAY.out, HUN.out⟩
              case measure => simp [intOf]; omega
            | false =>
              have HAY := Lib.hid (show alongTo (fun t ch met => alongS bs k t 0 ch met) ((nexts bk).drop (m + 1)) (alongS bs k tn 0 ch2 (met2.set tn true)).1 (alongS bs k tn 0 ch2 (met2.set tn true)).2 = res from by
                rw [← HAL.out, HDP.out]; simp only [alongTo, hq, Bool.false_eq_true, if_false, Int.toNat_natCast])
              have huu := unset_set met2 tn (by omega) (by rw [HA1.out.ml]; omega) hq
              rw [Int.toNat_natCast] at huu
              have HUU := Lib.hid (show unset (met2.set tn true) < k from by have := HUN.out; omega)
              have HUV := Lib.hid (show unset (alongS bs k tn 0 ch2 (met2.set tn true)).2 ≤ unset met from by have := alongS_unset bs k tn 0 ch2 (met2.set tn true); have := HUN.out; omega)
              rw [hq] at v0
              clear hq huu
              have HA3 := Lib.hid (HA1.out.meet tn htl)
              have a0s : (wr.setCell ⟨mv, tn, none⟩ (.bool true)).cell? ⟨aB, 0, none⟩ = some (.func (.func 61) #[] #[.pointer (some ⟨gB, 0, none⟩), .pointer (some ⟨cB, 0, none⟩), .pointer (some ⟨mB, 0, none⟩), .pointer (some ⟨aB, 0, none⟩)]) := (blk_cell HA3.out.1.a 0).trans rfl
              have HN3 := Lib.hid (HN1.out.gr HA3.out.2 HA1.out)
              go_wp2_with (go_at_call 61; go_loud (refine (IH.out tn 0 ch2 (met2.set tn true) _ HUU.out htl (Nat.zero_le _) (HL6.out _ (getD_mem (by omega))) HL6.out HA3.out.1).mono ?_; rintro e w4 ⟨rfl, hA4, hG4⟩; have HA4 := Lib.hid hA4; have HG4 := Lib.hid ((HG1.out.trans HA3.out.2).trans hG4); have HN4 := Lib.hid (HN3.out.gr hG4 HA3.out.1); clear hA4 hG4))
              go_roundw
              case rel => exact ⟨m + 1, _, _, by omega, by go_num, HA4.out, HG4.out, HN4.out, HAY.out, HUV.out⟩
              case measure => simp [intOf]; omega
          · have hme : m = (nexts bk).length := by omega
            subst hme
            have hres : res = (ch2, met2) := by
              rw [← HAL.out, List.drop_length]; rfl
            go_wp2
            refine bodyPost_end (results_none rfl _ _ _) rfl ⟨rfl, by rw [hres]; exact HA1.out, HG1.out⟩
end Go.Proofs.Ytjmeignhhheckaa.H
namespace Go.Proofs.Ytjmeignhhheckaa.H
open Go.RowKit Go.Maps Go.Proofs.YtjmeignhhheckaaW.PrintWords Go.Proofs.YtjmeignhhheckaaW.PrintLast Go.Proofs.Ytjmeignhhheckaa.Q
set_option maxRecDepth 100000
section
variable {P : Program} {md : Region.Mode} {ops : Array Oper} {Q : Exit → Act → World → Prop} {fuel : Nat} {listed : Array Bool} {a : Act} {w : World}
theorem wpAny_one (i : Nat) (hr : Region.ready md ops listed = [i]) (h : wpOp P ops Q i (wpAny P md ops Q fuel (listed.setIfInBounds i true)) a w) : wpAny P md ops Q (fuel + 1) listed a w := by
  unfold wpAny
  rw [hr]
  exact ⟨fun h => (by cases h), fun j hj => by rw [List.mem_singleton] at hj; subst hj; exact h⟩
theorem wpAny_two (i j : Nat) (hr : Region.ready md ops listed = [i, j]) (h : wpOp P ops Q i (wpAny P md ops Q fuel (listed.setIfInBounds i true)) a w) (h2 : wpOp P ops Q j (wpAny P md ops Q fuel (listed.setIfInBounds j true)) a w) : wpAny P md ops Q (fuel + 1) listed a w := by
  unfold wpAny
  rw [hr]
  refine ⟨fun h => (by cases h), fun k hk => ?_⟩
  rcases List.mem_cons.1 hk with rfl | hk
  · exact h
  · rw [List.mem_singleton] at hk; subst hk; exact h2
theorem wpOp_plain {i : Nat} {K : Act → World → Prop} {o : Oper} (h0 : ops[i]? = some o) (hg : o.guard = none) (h : ∀ K', (∀ a w, K a w → K' a w) → o.wp P a w K' Q) : wpOp P ops Q i K a w := by
  unfold wpOp
  rw [h0]
  have hw : Region.wanted o (yielded ops a.tmps) = true := by simp [Region.wanted, hg]
  simp only [hw, if_true]
  exact .inl (h K (fun _ _ h => h))
theorem wpAny_rest (l : List Oper) (k : Nat) (hs : Region.noSelect ops = true) (hl : ∀ j, l[j]? = ops[k + j]?) (hB : Region.lexFrom md ops l.length k listed = true) (h : wpStill P ops w (fun a' => Q .normal a' w) l a) : wpAny P md ops Q l.length listed a w :=
  wpAny_of_still (Q := fun a' => Q .normal a' w) (fun _ h => h) _ _ _ (wpAnyS_lex hs l k listed a hl hB h)
/-- loads first, then what makes memory, order by order -/
theorem wpAnyH_take2 {S : World → Prop} (i : Nat) (v : Value) {oi : Oper} (hi : ops[i]? = some oi)
    (hs : Region.noSelect ops = true) (hf : Region.free md ops listed i = true) (hr : (Region.ready md ops listed).contains i = true)
    (hQ : ∀ c a w, Q (.panic c) (a.put oi.dst v) w → Q (.panic c) a w) (hy : YieldsIf P ops S oi v a) (hS : S w)
    (h : ∀ K : Act → Prop, (∀ a, wpAnyH P md ops Q S fuel (listed.setIfInBounds i true) a w → K a) → K (a.put oi.dst v)) : wpAnyH P md ops Q S (fuel + 1) listed a w :=
  wpAnyH_take hi hs hf hr hQ hy hS (h _ (fun _ h => h))
theorem wpOp_plainH {i : Nat} {K : Act → World → Prop} {o : Oper} (h0 : ops[i]? = some o) (hg : o.guard = none) (h : o.wp P a w K Q) : wpOp P ops Q i K a w := wpOp_plain h0 hg (fun K' hK => Oper.wp_mono hK h)
theorem wpAnyH_one {S : World → Prop} (i : Nat) {o : Oper} (hr : Region.ready md ops listed = [i]) (h0 : ops[i]? = some o) (hg : o.guard = none)
    (h : ∀ K : Act → World → Prop, (∀ a w, S w → wpAnyH P md ops Q S fuel (listed.setIfInBounds i true) a w → K a w) → o.wp P a w K Q) : wpAnyH P md ops Q S (fuel + 1) listed a w :=
  wpAnyH_all hr (by simp) fun j hj => by
    rw [List.mem_singleton] at hj
    subst hj
    exact wpOp_plainH h0 hg (h _ (fun a w h1 h2 => ⟨h1, h2⟩))
theorem wpAnyH_two {S : World → Prop} (i j : Nat) {o o2 : Oper} (hr : Region.ready md ops listed = [i, j]) (h0 : ops[i]? = some o) (hg : o.guard = none) (h02 : ops[j]? = some o2) (hg2 : o2.guard = none)
    (h : ∀ K : Act → World → Prop, (∀ a w, S w → wpAnyH P md ops Q S fuel (listed.setIfInBounds i true) a w → K a w) → o.wp P a w K Q)
    (h2 : ∀ K : Act → World → Prop, (∀ a w, S w → wpAnyH P md ops Q S fuel (listed.setIfInBounds j true) a w → K a w) → o2.wp P a w K Q) : wpAnyH P md ops Q S (fuel + 1) listed a w :=
  wpAnyH_all hr (by simp) fun k hk => by
    rcases List.mem_cons.1 hk with rfl | hk
    · exact wpOp_plainH h0 hg (h _ (fun a w h1 h2 => ⟨h1, h2⟩))
    · rw [List.mem_singleton] at hk
      subst hk
      exact wpOp_plainH h02 hg2 (h2 _ (fun a w h1 h2 => ⟨h1, h2⟩))
/-- a rest that reads alone, behind a box (so that no look at its type runs it) -/
theorem bs_step {Q : Act → Prop} {o : Oper} {rest : List Oper} (h : ∀ K : Act → Prop, (∀ a, Aside0 (wpStill P ops w Q rest a) → K a) → if Region.wanted o (yielded ops a.tmps) then o.still P a w K else K (a.put o.dst undef)) : Aside0 (wpStill P ops w Q (o :: rest) a) :=
  ⟨wpStill_step fun K hK => h K (fun a ha => hK a ha.out)⟩
theorem bs_nil {Q : Act → Prop} (h : Q a) : Aside0 (wpStill P ops w Q [] a) := ⟨wpStill_nil h⟩
theorem wpAny_still_five {o0 o1 o2 o3 o4 : Oper} {l : List Oper} {n : Nat} {Q : Exit → Act → World → Prop} (h1 : Region.noSelect (o0 :: o1 :: o2 :: o3 :: o4 :: l).toArray = true) (h2 : n = l.length) (h3 : Region.lexFrom md (o0 :: o1 :: o2 :: o3 :: o4 :: l).toArray l.length 5 listed = true) (h : Aside0 (wpStill P (o0 :: o1 :: o2 :: o3 :: o4 :: l).toArray w (fun a' => Q .normal a' w) l a)) : wpAny P md (o0 :: o1 :: o2 :: o3 :: o4 :: l).toArray Q n listed a w := by
  subst h2
  refine wpAny_rest l 5 h1 (fun j => ?_) h3 h.out
  rw [List.getElem?_toArray, Nat.add_comm]
  rfl
end
end Go.Proofs.Ytjmeignhhheckaa.H

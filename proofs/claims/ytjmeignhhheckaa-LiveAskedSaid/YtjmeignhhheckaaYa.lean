/- A part of the proof of LiveAsked: contracts of the functions that are reached, and the plain law. -/
import Derived.Test.YtjmeignhhheckaaXd

set_option linter.unusedVariables false
set_option linter.unusedSimpArgs false
namespace Go.Proofs.Ytjmeignhhheckaa.H
open Go.RowKit Go.Maps Go.Proofs.YtjmeignhhheckaaW.PrintWords Go.Proofs.YtjmeignhhheckaaW.PrintLast Go.Proofs.Ytjmeignhhheckaa.Q
set_option maxRecDepth 100000
def goB (bs : List S36) (sb si : Int) : Bool := thereB bs sb si && decide (si ≠ (rd_T36 bs sb).f0.length) && ((rd_T46 (rd_T36 bs sb).f0 si).f0 == 13)
def changedS (bs : List S36) (sb : Int) (k : Nat) : List Nat := (alongS bs (bs.length + 1) sb k zeroW (List.replicate bs.length false)).1
def savedS (xs : List Bool) (sites : Int) (bs : List S36) (sb si : Int) : List Int × Int :=
  if gE xs sites bs ≠ 0 then ([], gE xs sites bs) else if goB bs sb si then (listS (bothW (aheadW (rd_T36 bs sb) (si.toNat + 1) (setsS bs)) (changedS bs sb (si.toNat + 1))), 0) else ([], 1)
theorem savedS_no {xs : List Bool} {sites : Int} {bs : List S36} {sb si : Int} (h : gE xs sites bs = 0) (hg : goB bs sb si = false) : savedS xs sites bs sb si = ([], 1) := by
  unfold savedS
  rw [if_neg (fun hn => hn h), hg]
  rfl
theorem savedS_yes {xs : List Bool} {sites : Int} {bs : List S36} {sb si : Int} (h : gE xs sites bs = 0) (hg : goB bs sb si = true) : savedS xs sites bs sb si = (listS (bothW (aheadW (rd_T36 bs sb) (si.toNat + 1) (setsS bs)) (changedS bs sb (si.toNat + 1))), 0) := by
  unfold savedS
  rw [if_neg (fun hn => hn h), hg]
  rfl
structure SvF (w : World) (G : Array Value) (sb si : Int) (cB : Nat) (ch : List Nat) (wr : World) : Prop where
  af : AFr w G sb si wr
  cb : SB wr cB ch
  ok : okW ch
theorem SvF.below {w : World} {G : Array Value} {sb si : Int} {cB : Nat} {ch : List Nat} {wr wr' : World} (h : SvF w G sb si cB ch wr) (hb : Below wr.heap.size wr wr') : SvF w G sb si cB ch wr' := ⟨h.af.below hb, blk_below h.cb hb, h.ok⟩
theorem SvF.drew {w : World} {G : Array Value} {sb si : Int} {cB : Nat} {ch : List Nat} {wr : World} (h : SvF w G sb si cB ch wr) : SvF w G sb si cB ch wr.drew := ⟨h.af.drew, h.cb.drew, h.ok⟩
theorem SvF.grown {w : World} {G : Array Value} {sb si : Int} {cB ga : Nat} {ch : List Nat} {wr wr' : World} (h : SvF w G sb si cB ch wr) (hga : w.heap.size ≤ ga) (hg : wr.grownBy wr' (some ga)) (hne : ga ≠ cB ∧ ga ≠ w.heap.size ∧ ga ≠ w.heap.size + 1) : SvF w G sb si cB ch wr' :=
  ⟨⟨h.af.b.grown hg h.af.b.size (fun k hk => by cases hk; exact hga), blk_grown h.af.c0 hg (fun e => hne.2.1 (Option.some.inj e).symm), blk_grown h.af.c1 hg (fun e => hne.2.2 (Option.some.inj e).symm)⟩, blk_grown h.cb hg (fun e => hne.1 (Option.some.inj e).symm), h.ok⟩
theorem run_store_fn (P : Program) (w : World) (a : Addr) (m : Mode) (f : Fn) (x y : Array Value) : (store a (.func f x y) m).run P w = stored P w a (.func f x y) m := run_store P w a _ m rfl
attribute [local go_sem] run_store_fn
theorem make22 (n : Nat) (hn : n ≤ 100000) (W : World) : (Instr.makeSlice 22 (.int .i64 n) (.int .i64 n)).run Try.prog W = .ok (.slice (some ⟨W.heap.size, 0, none⟩) n n) (W.alloc (.cells (Array.replicate n (.bool false)) 4)) := by
  have := print_make_of (P := Try.prog) 22 4 (.bool false) 1 Try.underlying22 info4 rfl (by decide) n (by omega) W
  rw [this]
  congr 3
  apply Array.ext'
  simp only [madeCells, Array.toList_map, Array.toList_range, Array.toList_replicate]
  refine List.ext_getElem (by simp) (fun i h1 h2 => ?_)
  simp [Nat.mod_one]
theorem ins_le_total {bs : List S36} {x : S36} (h : x ∈ bs) : x.f0.length ≤ insTotal bs := by
  unfold insTotal
  induction bs with
  | nil => cases h
  | cons b bs ih =>
    rw [List.map_cons, List.sum_cons]
    rcases List.mem_cons.1 h with rfl | h
    · omega
    · have := ih h; omega
set_option maxHeartbeats 16000000 in
theorem saved_calls (A0 A2 : Option Addr) (c0 c2 : Nat) (l0 : List Bool) (a1 : Int) (l2 : List S36) (sb si : Int) (w : World) (h0 : Kd.C Kd.bool w A0 l0.length l0) (hc0 : l0.length ≤ c0) (h2 : Kd.C k36 w A2 l2.length l2) (hc2 : l2.length ≤ c2) (hs : smallG l2) :
    Calls Try.prog 22 #[.agg #[.slice A0 l0.length c0, .int .i64 a1, .slice A2 l2.length c2], .agg #[.int .i64 sb, .int .i64 si]] w fun e w' => ∃ v : Value, e = .returned (.tuple #[v, .int .i64 (savedS l0 a1 l2 sb si).2]) ∧ Kd.R (Kd.int .i64) 3 w' w.heap.size (fun _ => True) v (savedS l0 a1 l2 sb si).1 ∧ Below w.heap.size w w' := by
  have HC0 := Lib.hid h0
  have HC := Lib.hid h2
  have HL0 := Lib.hid hc0
  have HL2 := Lib.hid hc2
  clear h0 h2 hc0 hc2
  have hu25 := Try.underlying25
  have hu41 := Try.underlying41
  have hu23 := Try.underlying23
  have hu36 := Try.underlying36
  have hu46 := Try.underlying46
  have hu33 := Try.underlying33
  have HF := Lib.hid (AFr.start w #[.slice A0 l0.length c0, .int .i64 a1, .slice A2 l2.length c2] sb si)
  by_cases hE : gE l0 a1 l2 = 0
  · have hcb : (gE l0 a1 l2 != 0) = false := by simpa using hE
    have HE := Lib.hid hE
    clear hE
    have G := gE_gok HE.out
    cases htb : thereB l2 sb si with
    | false =>
      have hgo : goB l2 sb si = false := by unfold goB; rw [htb]; rfl
      rw [savedS_no HE.out hgo]
      clear hgo
      go_enter Try.func22, Try.ntmps22
      go_wp2_with (go_at_call 56; go_loud (refine (check_calls (Kd.C_below HC0.out HF.out.b) HL0.out (Kd.C_below HC.out HF.out.b) HL2.out hs).mono ?_; rintro e w3 ⟨rfl, hb3⟩; have HF3 := Lib.hid (HF.out.below hb3); clear hb3))
      refine wp_region_any (by kernel_rfl) ?_
      have HFd := Lib.hid HF3.out.drew
      change wpAny _ _ _ _ 32 _ _ w3.drew
      have g0 : w3.drew.cell? ⟨w.heap.size, 0, none⟩ = some (.slice A0 l0.length c0) := (blk_cell HFd.out.c0 0).trans rfl
      have g1 : w3.drew.cell? ⟨w.heap.size, 1, none⟩ = some (.int .i64 a1) := (blk_cell HFd.out.c0 1).trans rfl
      have g2 : w3.drew.cell? ⟨w.heap.size, 2, none⟩ = some (.slice A2 l2.length c2) := (blk_cell HFd.out.c0 2).trans rfl
      have s0 : w3.drew.cell? ⟨w.heap.size + 1, 0, none⟩ = some (.int .i64 sb) := (blk_cell HFd.out.c1 0).trans rfl
      have s1 : w3.drew.cell? ⟨w.heap.size + 1, 1, none⟩ = some (.int .i64 si) := (blk_cell HFd.out.c1 1).trans rfl
      generalize w3.drew = w3d at *
      clear HF3 HF
      refine wpAny_two 0 1 (by kernel_rfl) (wpOp_plain rfl rfl (fun K hK => ?_)) (wpOp_plain rfl rfl (fun K hK => ?_))
      · go_simp
        refine hK _ _ ?_
        clear hK K
        refine wpAny_one 1 (by kernel_rfl) (wpOp_plain rfl rfl (fun K hK => ?_))
        go_simp
        refine hK _ _ ?_
        clear hK K
        refine wpAny_one 2 (by kernel_rfl) (wpOp_plain rfl rfl (fun K hK => ?_))
        go_simp
        refine (live_there.calls A0 c0 l0 a1 A2 c2 l2 sb si _ _ (Kd.C_below HC0.out HFd.out.b) HL0.out (Kd.C_below HC.out HFd.out.b) HL2.out ((there_f l0 a1 l2 sb si).trans (congrArg some htb))).mono ?_
        rintro e w4 ⟨rfl, hb4⟩
        have HF4 := Lib.hid (HFd.out.below hb4)
        refine hK _ _ ?_
        clear hK K hb4 g0 g1 g2 s0 s1
        refine wpAny_one 3 (by kernel_rfl) (wpOp_plain rfl rfl (fun K hK => ?_))
        go_simp
        refine hK _ _ ?_
        clear hK K
        refine wpAny_one 4 (by kernel_rfl) (wpOp_plain rfl rfl (fun K hK => ?_))
        go_simp
        refine hK _ _ ?_
        clear hK K
        refine wpAny_still_five (by kernel_rfl) (by kernel_rfl) (by kernel_rfl) ?_
        iterate 27 (refine bs_step (fun K hK => ?_); go_simp; refine hK _ ?_; clear hK K)
        refine bs_nil ?_
        go_wp2
        refine bodyPost_ret (v := .tuple #[.slice none 0 0, .int .i64 1]) (by simp [results, Try.results22, go_sem]) rfl ⟨_, rfl, Kd.R_nil _ _ _ _ _, HF4.out.b⟩
      · go_simp
        refine hK _ _ ?_
        clear hK K
        refine wpAny_one 0 (by kernel_rfl) (wpOp_plain rfl rfl (fun K hK => ?_))
        go_simp
        refine hK _ _ ?_
        clear hK K
        refine wpAny_one 2 (by kernel_rfl) (wpOp_plain rfl rfl (fun K hK => ?_))
        go_simp
        refine (live_there.calls A0 c0 l0 a1 A2 c2 l2 sb si _ _ (Kd.C_below HC0.out HFd.out.b) HL0.out (Kd.C_below HC.out HFd.out.b) HL2.out ((there_f l0 a1 l2 sb si).trans (congrArg some htb))).mono ?_
        rintro e w4 ⟨rfl, hb4⟩
        have HF4 := Lib.hid (HFd.out.below hb4)
        refine hK _ _ ?_
        clear hK K hb4 g0 g1 g2 s0 s1
        refine wpAny_one 3 (by kernel_rfl) (wpOp_plain rfl rfl (fun K hK => ?_))
        go_simp
        refine hK _ _ ?_
        clear hK K
        refine wpAny_one 4 (by kernel_rfl) (wpOp_plain rfl rfl (fun K hK => ?_))
        go_simp
        refine hK _ _ ?_
        clear hK K
        refine wpAny_still_five (by kernel_rfl) (by kernel_rfl) (by kernel_rfl) ?_
        iterate 27 (refine bs_step (fun K hK => ?_); go_simp; refine hK _ ?_; clear hK K)
        refine bs_nil ?_
        go_wp2
        refine bodyPost_ret (v := .tuple #[.slice none 0 0, .int .i64 1]) (by simp [results, Try.results22, go_sem]) rfl ⟨_, rfl, Kd.R_nil _ _ _ _ _, HF4.out.b⟩
    | true =>
      obtain ⟨t0, t1, t2, t3⟩ := thereB_iff htb
      obtain ⟨n, rfl⟩ := Int.eq_ofNat_of_zero_le t0
      obtain ⟨m, rfl⟩ := Int.eq_ofNat_of_zero_le t2
      have hblk := G.blk
      obtain ⟨ad2, A3, c3, hA, e0, e1, e2, e3, e4, hc3, hC3⟩ := at_T36 HC.out (n : Int) (by omega) (by omega)
      subst hA
      simp only [Int.toNat_natCast] at e0 e1 e2 e3 e4
      have HEC := Lib.hid (And.intro e0 (And.intro e1 (And.intro e2 (And.intro e3 e4))))
      clear e0 e1 e2 e3 e4
      have HGO := Lib.hid (show goB l2 n m = (decide ((m : Int) ≠ (rd_T36 l2 (n : Nat)).f0.length) && ((rd_T46 (rd_T36 l2 (n : Nat)).f0 m).f0 == 13)) from by unfold goB; rw [htb]; rfl)
      have HSY := Lib.hid (fun h => savedS_yes (xs := l0) (sites := a1) (bs := l2) (sb := n) (si := m) HE.out h)
      have HSN := Lib.hid (fun h => savedS_no (xs := l0) (sites := a1) (bs := l2) (sb := n) (si := m) HE.out h)
      have HBK := Lib.hid (show blkOk l2.length (rd_T36 l2 (n : Nat)) from hblk _ (getD_mem (by omega)))
      have HBL := Lib.hid hblk
      have HC3 := Lib.hid hC3
      have HC3l := Lib.hid hc3
      have HTOT := Lib.hid (fun x (hx : x ∈ l2) => show x.f0.length ≤ 100000 from by have := ins_le_total hx; have := G.tot; omega)
      have HGN := Lib.hid (show l2.length ≤ 5000 from by have := G.nb; omega)
      have hlb : (rd_T36 l2 (n : Nat)).f0.length ≤ 100000 := HTOT.out _ (getD_mem (by omega))
      have hlt2 : n < l2.length := by omega
      clear hC3 hc3 hblk
      generalize hbe : rd_T36 l2 (n : Nat) = bk at *
      have HBE := Lib.hid hbe
      clear hbe
      by_cases hml : m = bk.f0.length
      · subst hml
        rw [HSN.out (by rw [HGO.out]; simp)]
        go_enter Try.func22, Try.ntmps22
        go_wp2_with (go_at_call 56; go_loud (refine (check_calls (Kd.C_below HC0.out HF.out.b) HL0.out (Kd.C_below HC.out HF.out.b) HL2.out hs).mono ?_; rintro e w3 ⟨rfl, hb3⟩; have HF3 := Lib.hid (HF.out.below hb3); clear hb3))
        refine wp_region_any (by kernel_rfl) ?_
        have HFd := Lib.hid HF3.out.drew
        change wpAny _ _ _ _ 32 _ _ w3.drew
        have g0 : w3.drew.cell? ⟨w.heap.size, 0, none⟩ = some (.slice A0 l0.length c0) := (blk_cell HFd.out.c0 0).trans rfl
        have g1 : w3.drew.cell? ⟨w.heap.size, 1, none⟩ = some (.int .i64 a1) := (blk_cell HFd.out.c0 1).trans rfl
        have g2 : w3.drew.cell? ⟨w.heap.size, 2, none⟩ = some (.slice (some ad2) l2.length c2) := (blk_cell HFd.out.c0 2).trans rfl
        have s0 : w3.drew.cell? ⟨w.heap.size + 1, 0, none⟩ = some (.int .i64 n) := (blk_cell HFd.out.c1 0).trans rfl
        have s1 : w3.drew.cell? ⟨w.heap.size + 1, 1, none⟩ = some (.int .i64 bk.f0.length) := (blk_cell HFd.out.c1 1).trans rfl
        generalize w3.drew = w3d at *
        clear HF3 HF
        refine wpAny_two 0 1 (by kernel_rfl) (wpOp_plain rfl rfl (fun K hK => ?_)) (wpOp_plain rfl rfl (fun K hK => ?_))
        · go_simp
          refine hK _ _ ?_
          clear hK K
          refine wpAny_one 1 (by kernel_rfl) (wpOp_plain rfl rfl (fun K hK => ?_))
          go_simp
          refine hK _ _ ?_
          clear hK K
          refine wpAny_one 2 (by kernel_rfl) (wpOp_plain rfl rfl (fun K hK => ?_))
          go_simp
          refine (live_there.calls A0 c0 l0 a1 (some ad2) c2 l2 n bk.f0.length _ _ (Kd.C_below HC0.out HFd.out.b) HL0.out (Kd.C_below HC.out HFd.out.b) HL2.out ((there_f l0 a1 l2 n bk.f0.length).trans (congrArg some htb))).mono ?_
          rintro e w4 ⟨rfl, hb4⟩
          have HF4 := Lib.hid (HFd.out.below hb4)
          refine hK _ _ ?_
          clear hK K hb4 g0 g1 g2 s0 s1
          have g2 : w4.cell? ⟨w.heap.size, 2, none⟩ = some (.slice (some ad2) l2.length c2) := (blk_cell HF4.out.c0 2).trans rfl
          have s0 : w4.cell? ⟨w.heap.size + 1, 0, none⟩ = some (.int .i64 n) := (blk_cell HF4.out.c1 0).trans rfl
          have s1 : w4.cell? ⟨w.heap.size + 1, 1, none⟩ = some (.int .i64 bk.f0.length) := (blk_cell HF4.out.c1 1).trans rfl
          have b0 := pw_cell_below HF4.out.b HEC.out.1
          refine wpAny_one 3 (by kernel_rfl) (wpOp_plain rfl rfl (fun K hK => ?_))
          go_simp
          refine hK _ _ ?_
          clear hK K
          refine wpAny_one 4 (by kernel_rfl) (wpOp_plain rfl rfl (fun K hK => ?_))
          go_simp
          refine hK _ _ ?_
          clear hK K
          refine wpAny_still_five (by kernel_rfl) (by kernel_rfl) (by kernel_rfl) ?_
          iterate 27 (refine bs_step (fun K hK => ?_); go_simp; refine hK _ ?_; clear hK K)
          refine bs_nil ?_
          go_wp2
          refine bodyPost_ret (v := .tuple #[.slice none 0 0, .int .i64 1]) (by simp [results, Try.results22, go_sem]) rfl ⟨_, rfl, Kd.R_nil _ _ _ _ _, HF4.out.b⟩
        · go_simp
          refine hK _ _ ?_
          clear hK K
          refine wpAny_one 0 (by kernel_rfl) (wpOp_plain rfl rfl (fun K hK => ?_))
          go_simp
          refine hK _ _ ?_
          clear hK K
          refine wpAny_one 2 (by kernel_rfl) (wpOp_plain rfl rfl (fun K hK => ?_))
          go_simp
          refine (live_there.calls A0 c0 l0 a1 (some ad2) c2 l2 n bk.f0.length _ _ (Kd.C_below HC0.out HFd.out.b) HL0.out (Kd.C_below HC.out HFd.out.b) HL2.out ((there_f l0 a1 l2 n bk.f0.length).trans (congrArg some htb))).mono ?_
          rintro e w4 ⟨rfl, hb4⟩
          have HF4 := Lib.hid (HFd.out.below hb4)
          refine hK _ _ ?_
          clear hK K hb4 g0 g1 g2 s0 s1
          have g2 : w4.cell? ⟨w.heap.size, 2, none⟩ = some (.slice (some ad2) l2.length c2) := (blk_cell HF4.out.c0 2).trans rfl
          have s0 : w4.cell? ⟨w.heap.size + 1, 0, none⟩ = some (.int .i64 n) := (blk_cell HF4.out.c1 0).trans rfl
          have s1 : w4.cell? ⟨w.heap.size + 1, 1, none⟩ = some (.int .i64 bk.f0.length) := (blk_cell HF4.out.c1 1).trans rfl
          have b0 := pw_cell_below HF4.out.b HEC.out.1
          refine wpAny_one 3 (by kernel_rfl) (wpOp_plain rfl rfl (fun K hK => ?_))
          go_simp
          refine hK _ _ ?_
          clear hK K
          refine wpAny_one 4 (by kernel_rfl) (wpOp_plain rfl rfl (fun K hK => ?_))
          go_simp
          refine hK _ _ ?_
          clear hK K
          refine wpAny_still_five (by kernel_rfl) (by kernel_rfl) (by kernel_rfl) ?_
          iterate 27 (refine bs_step (fun K hK => ?_); go_simp; refine hK _ ?_; clear hK K)
          refine bs_nil ?_
          go_wp2
          refine bodyPost_ret (v := .tuple #[.slice none 0 0, .int .i64 1]) (by simp [results, Try.results22, go_sem]) rfl ⟨_, rfl, Kd.R_nil _ _ _ _ _, HF4.out.b⟩
      · have hmlt : m < bk.f0.length := by omega
        have hmi : ((m : Int) == (bk.f0.length : Int)) = false := by
          rw [beq_eq_false_iff_ne]; omega
        obtain ⟨ad6, hA6, d0, _⟩ := at_T46 HC3.out (m : Int) (by omega) (by omega)
        subst hA6
        simp only [Int.toNat_natCast] at d0
        have HDC := Lib.hid d0
        clear d0
        by_cases hk : (rd_T46 bk.f0 (m : Nat)).f0 = 13
        · rw [HSY.out (by rw [HGO.out, hk]; simp; omega), Int.toNat_natCast]
          rw [hk] at HDC
          clear hk
          go_enter Try.func22, Try.ntmps22
          go_wp2_with (go_at_call 56; go_loud (refine (check_calls (Kd.C_below HC0.out HF.out.b) HL0.out (Kd.C_below HC.out HF.out.b) HL2.out hs).mono ?_; rintro e w3 ⟨rfl, hb3⟩; have HF3 := Lib.hid (HF.out.below hb3); clear hb3))
          refine wp_region_any (by kernel_rfl) ?_
          have HFd := Lib.hid HF3.out.drew
          change wpAny _ _ _ _ 32 _ _ w3.drew
          have g0 : w3.drew.cell? ⟨w.heap.size, 0, none⟩ = some (.slice A0 l0.length c0) := (blk_cell HFd.out.c0 0).trans rfl
          have g1 : w3.drew.cell? ⟨w.heap.size, 1, none⟩ = some (.int .i64 a1) := (blk_cell HFd.out.c0 1).trans rfl
          have g2 : w3.drew.cell? ⟨w.heap.size, 2, none⟩ = some (.slice (some ad2) l2.length c2) := (blk_cell HFd.out.c0 2).trans rfl
          have s0 : w3.drew.cell? ⟨w.heap.size + 1, 0, none⟩ = some (.int .i64 n) := (blk_cell HFd.out.c1 0).trans rfl
          have s1 : w3.drew.cell? ⟨w.heap.size + 1, 1, none⟩ = some (.int .i64 m) := (blk_cell HFd.out.c1 1).trans rfl
          generalize w3.drew = w3d at *
          clear HF3 HF
          refine wpAny_two 0 1 (by kernel_rfl) (wpOp_plain rfl rfl (fun K hK => ?_)) (wpOp_plain rfl rfl (fun K hK => ?_))
          · go_simp
            refine hK _ _ ?_
            clear hK K
            refine wpAny_one 1 (by kernel_rfl) (wpOp_plain rfl rfl (fun K hK => ?_))
            go_simp
            refine hK _ _ ?_
            clear hK K
            refine wpAny_one 2 (by kernel_rfl) (wpOp_plain rfl rfl (fun K hK => ?_))
            go_simp
            refine (live_there.calls A0 c0 l0 a1 (some ad2) c2 l2 n m _ _ (Kd.C_below HC0.out HFd.out.b) HL0.out (Kd.C_below HC.out HFd.out.b) HL2.out ((there_f l0 a1 l2 n m).trans (congrArg some htb))).mono ?_
            rintro e w4 ⟨rfl, hb4⟩
            have HF4 := Lib.hid (HFd.out.below hb4)
            refine hK _ _ ?_
            clear hK K hb4 g0 g1 g2 s0 s1
            have g2 : w4.cell? ⟨w.heap.size, 2, none⟩ = some (.slice (some ad2) l2.length c2) := (blk_cell HF4.out.c0 2).trans rfl
            have s0 : w4.cell? ⟨w.heap.size + 1, 0, none⟩ = some (.int .i64 n) := (blk_cell HF4.out.c1 0).trans rfl
            have s1 : w4.cell? ⟨w.heap.size + 1, 1, none⟩ = some (.int .i64 m) := (blk_cell HF4.out.c1 1).trans rfl
            have b0 := pw_cell_below HF4.out.b HEC.out.1
            have d0 := pw_cell_below HF4.out.b HDC.out
            refine wpAny_one 3 (by kernel_rfl) (wpOp_plain rfl rfl (fun K hK => ?_))
            go_simp
            refine hK _ _ ?_
            clear hK K
            refine wpAny_one 4 (by kernel_rfl) (wpOp_plain rfl rfl (fun K hK => ?_))
            go_simp
            refine hK _ _ ?_
            clear hK K
            refine wpAny_still_five (by kernel_rfl) (by kernel_rfl) (by kernel_rfl) ?_
            iterate 27 (refine bs_step (fun K hK => ?_); go_simp; refine hK _ ?_; clear hK K)
            refine bs_nil ?_
            have hz16 : (zeroW.map wv).toArray = #[.int .u64 0, .int .u64 0, .int .u64 0, .int .u64 0, .int .u64 0, .int .u64 0, .int .u64 0, .int .u64 0, .int .u64 0, .int .u64 0, .int .u64 0, .int .u64 0, .int .u64 0, .int .u64 0, .int .u64 0, .int .u64 0] := rfl
            have HB4 := Lib.hid ((Below.refl w4.heap.size w4).alloc (Nat.le_refl _) (.cells (zeroW.map wv).toArray 98))
            have HF5 := Lib.hid (HF4.out.below HB4.out)
            have HS5 := Lib.hid (show SB (w4.alloc (.cells (zeroW.map wv).toArray 98)) w4.heap.size zeroW from blk_new w4 _)
            have HCB := Lib.hid HF4.out.b.size
            rw [hz16] at HF5 HS5
            clear HB4 hz16 HF4 g2 s0 s1 b0 d0
            go_upto_region 7 with fail
            generalize (w4.alloc (.cells #[.int .u64 0, .int .u64 0, .int .u64 0, .int .u64 0, .int .u64 0, .int .u64 0, .int .u64 0, .int .u64 0, .int .u64 0, .int .u64 0, .int .u64 0, .int .u64 0, .int .u64 0, .int .u64 0, .int .u64 0, .int .u64 0] 98)) = w5 at *
            generalize w4.heap.size = cB at *
            have g2 : w5.cell? ⟨w.heap.size, 2, none⟩ = some (.slice (some ad2) l2.length c2) := (blk_cell HF5.out.c0 2).trans rfl
            have hmk := make22 l2.length (by have := HGN.out; omega)
            have hu22 := Try.underlying22
            go_upto_region 8 with fail
            clear hmk g2
            have HB6 := Lib.hid (((Below.refl w5.heap.size w5).alloc (Nat.le_refl _) (.cells (Array.replicate l2.length (.bool false)) 4)).alloc (by simp) (.cells #[.slice (some ⟨w5.heap.size, 0, none⟩) l2.length l2.length] 22))
            have HF6 := Lib.hid (HF5.out.below HB6.out)
            have HS6 := Lib.hid (blk_below HS5.out HB6.out)
            have HV6 := Lib.hid (show BB ((w5.alloc (.cells (Array.replicate l2.length (.bool false)) 4)).alloc (.cells #[.slice (some ⟨w5.heap.size, 0, none⟩) l2.length l2.length] 22)) w5.heap.size (List.replicate l2.length false) from by
              have := blk_alloc (blk_new w5 (.cells (Array.replicate l2.length (.bool false)) 4)) (.cells #[.slice (some ⟨w5.heap.size, 0, none⟩) l2.length l2.length] 22)
              unfold BB
              rw [List.map_replicate, List.toArray_replicate]
              exact this)
            have HM6 := Lib.hid (show ((w5.alloc (.cells (Array.replicate l2.length (.bool false)) 4)).alloc (.cells #[.slice (some ⟨w5.heap.size, 0, none⟩) l2.length l2.length] 22)).heap[w5.heap.size + 1]? = some (.cells #[.slice (some ⟨w5.heap.size, 0, none⟩) l2.length l2.length] 22 (0, 0)) from by
              have := blk_new (w5.alloc (.cells (Array.replicate l2.length (.bool false)) 4)) (.cells #[.slice (some ⟨w5.heap.size, 0, none⟩) l2.length l2.length] 22)
              rwa [show (w5.alloc (.cells (Array.replicate l2.length (.bool false)) 4)).heap.size = w5.heap.size + 1 from by simp] at this)
            have HMV := Lib.hid HF5.out.b.size
            clear HB6 HF5 HS5
            generalize (w5.alloc (.cells (Array.replicate l2.length (.bool false)) 4)).alloc (.cells #[.slice (some ⟨w5.heap.size, 0, none⟩) l2.length l2.length] 22) = w6 at *
            generalize hmb : w5.heap.size + 1 = mB at *
            generalize w5.heap.size = mv at *
            clear hmb
            go_upto_region 10 with fail
            have HB7 := Lib.hid ((Below.refl w6.heap.size w6).alloc (Nat.le_refl _) (.cells #[.func (.func 61) #[] #[.pointer (some ⟨w.heap.size, 0, none⟩), .pointer (some ⟨cB, 0, none⟩), .pointer (some ⟨mB, 0, none⟩), .pointer (some ⟨w6.heap.size, 0, none⟩)]] 101))
            have HF7 := Lib.hid (HF6.out.below HB7.out)
            have HAW := Lib.hid (show AlW w w.heap.size cB mB mv w6.heap.size l2.length c0 c2 l0.length A0 (some ad2) a1 zeroW (List.replicate l2.length false) (w6.alloc (.cells #[.func (.func 61) #[] #[.pointer (some ⟨w.heap.size, 0, none⟩), .pointer (some ⟨cB, 0, none⟩), .pointer (some ⟨mB, 0, none⟩), .pointer (some ⟨w6.heap.size, 0, none⟩)]] 101)) from
              ⟨HF7.out.b, HF7.out.c0, blk_below HS6.out HB7.out, blk_below HM6.out HB7.out, blk_below HV6.out HB7.out, blk_new w6 _, okW_zero, by simp, HCB.out, HMV.out⟩)
            clear HB7 HF6 HS6 HM6 HV6
            generalize w6.alloc (.cells #[.func (.func 61) #[] #[.pointer (some ⟨w.heap.size, 0, none⟩), .pointer (some ⟨cB, 0, none⟩), .pointer (some ⟨mB, 0, none⟩), .pointer (some ⟨w6.heap.size, 0, none⟩)]] 101) = w7 at *
            generalize w6.heap.size = aB at *
            have f0 : w7.cell? ⟨aB, 0, none⟩ = some (.func (.func 61) #[] #[.pointer (some ⟨w.heap.size, 0, none⟩), .pointer (some ⟨cB, 0, none⟩), .pointer (some ⟨mB, 0, none⟩), .pointer (some ⟨aB, 0, none⟩)]) := (blk_cell HAW.out.a 0).trans rfl
            have s0 : w7.cell? ⟨w.heap.size + 1, 0, none⟩ = some (.int .i64 n) := (blk_cell HF7.out.c1 0).trans rfl
            have s1 : w7.cell? ⟨w.heap.size + 1, 1, none⟩ = some (.int .i64 m) := (blk_cell HF7.out.c1 1).trans rfl
            have hal := along_calls w w.heap.size cB mB mv aB c0 c2 l0.length A0 (some ad2) a1 l2 HC.out HBL.out HGN.out (l2.length + 1) n (m + 1) zeroW (List.replicate l2.length false) w7 (by rw [unset_rep]; omega) hlt2 (by rw [HBE.out]; omega) (by rw [HBE.out]; exact hlb) HTOT.out HAW.out
            rw [show (((m + 1 : Nat) : Int)) = (m : Int) + 1 from by omega] at hal
            have HAL := Lib.hid hal
            clear hal
            go_wp2_with (go_at_call 61; go_loud (refine HAL.out.mono ?_; rintro e w8 ⟨rfl, hA8, hG8⟩; have HA8 := Lib.hid hA8; have HG8 := Lib.hid hG8; clear hA8 hG8))
            have HS8 := Lib.hid (show SvF w #[.slice A0 l0.length c0, .int .i64 a1, .slice (some ad2) l2.length c2] n m cB (changedS l2 n (m + 1)) w8 from
              ⟨⟨HA8.out.b, HA8.out.g, (HG8.out.block _ (blk_lt HF7.out.c1) (types_ne HF7.out.c1 HAW.out.c (by decide)) (types_ne HF7.out.c1 HAW.out.v (by decide))).trans HF7.out.c1⟩, HA8.out.c, HA8.out.ok⟩)
            clear HAL HA8 HG8 HAW HF7 f0 s0 s1
            refine wp_region_held (S := fun W => SvF w #[.slice A0 l0.length c0, .int .i64 a1, .slice (some ad2) l2.length c2] n m cB (changedS l2 n (m + 1)) W) (by kernel_rfl) ?_
            have HS := Lib.hid HS8.out.drew
            change wpAnyH _ _ _ _ _ 14 _ _ w8.drew
            clear HS8
            generalize w8.drew = w9 at *
            refine wpAnyH_take2 0 (.pointer (some ⟨w.heap.size, 2, none⟩)) rfl (by kernel_rfl) (by kernel_rfl) (by kernel_rfl) (fun _ _ _ h => h) (.inl ⟨rfl, fun W hW => ?hy1⟩) HS.out ?hk1
            case hy1 =>
              go_simp
            intro K hK
            go_simp
            refine hK _ ?_
            clear hK K
            refine wpAnyH_take2 1 (.slice (some ad2) l2.length c2) rfl (by kernel_rfl) (by kernel_rfl) (by kernel_rfl) (fun _ _ _ h => h) (.inl ⟨rfl, fun W hW => ?hy2⟩) HS.out ?hk2
            case hy2 =>
              have g2 : W.cell? ⟨w.heap.size, 2, none⟩ = some (.slice (some ad2) l2.length c2) := (blk_cell hW.af.c0 2).trans rfl
              go_simp
            intro K hK
            go_simp
            refine hK _ ?_
            clear hK K
            refine wpAnyH_take2 2 (.pointer (some ⟨w.heap.size + 1, 0, none⟩)) rfl (by kernel_rfl) (by kernel_rfl) (by kernel_rfl) (fun _ _ _ h => h) (.inl ⟨rfl, fun W hW => ?hy3⟩) HS.out ?hk3
            case hy3 =>
              go_simp
            intro K hK
            go_simp
            refine hK _ ?_
            clear hK K
            refine wpAnyH_take2 3 (.int .i64 n) rfl (by kernel_rfl) (by kernel_rfl) (by kernel_rfl) (fun _ _ _ h => h) (.inl ⟨rfl, fun W hW => ?hy4⟩) HS.out ?hk4
            case hy4 =>
              have s0 : W.cell? ⟨w.heap.size + 1, 0, none⟩ = some (.int .i64 n) := (blk_cell hW.af.c1 0).trans rfl
              go_simp
            intro K hK
            go_simp
            refine hK _ ?_
            clear hK K
            refine wpAnyH_take2 4 (.pointer (some (ad2.add (n * 5)))) rfl (by kernel_rfl) (by kernel_rfl) (by kernel_rfl) (fun _ _ _ h => h) (.inl ⟨rfl, fun W hW => ?hy5⟩) HS.out ?hk5
            case hy5 =>
              go_simp
            intro K hK
            go_simp
            refine hK _ ?_
            clear hK K
            refine wpAnyH_take2 5 (.agg #[.slice (some ad6) bk.f0.length c3, .int .u8 bk.f1, .int .i64 bk.f2, .int .i64 bk.f3, .int .i64 bk.f4]) rfl (by kernel_rfl) (by kernel_rfl) (by kernel_rfl) (fun _ _ _ h => h) (.inl ⟨rfl, fun W hW => ?hy6⟩) HS.out ?hk6
            case hy6 =>
              have b0 := pw_cell_below hW.af.b HEC.out.1
              have b1 := pw_cell_below hW.af.b HEC.out.2.1
              have b2 := pw_cell_below hW.af.b HEC.out.2.2.1
              have b3 := pw_cell_below hW.af.b HEC.out.2.2.2.1
              have b4 := pw_cell_below hW.af.b HEC.out.2.2.2.2
              go_simp
            intro K hK
            go_simp
            refine hK _ ?_
            clear hK K
            refine wpAnyH_take2 6 (.pointer (some ⟨w.heap.size + 1, 1, none⟩)) rfl (by kernel_rfl) (by kernel_rfl) (by kernel_rfl) (fun _ _ _ h => h) (.inl ⟨rfl, fun W hW => ?hy7⟩) HS.out ?hk7
            case hy7 =>
              go_simp
            intro K hK
            go_simp
            refine hK _ ?_
            clear hK K
            refine wpAnyH_take2 7 (.int .i64 m) rfl (by kernel_rfl) (by kernel_rfl) (by kernel_rfl) (fun _ _ _ h => h) (.inl ⟨rfl, fun W hW => ?hy8⟩) HS.out ?hk8
            case hy8 =>
              have s1 : W.cell? ⟨w.heap.size + 1, 1, none⟩ = some (.int .i64 m) := (blk_cell hW.af.c1 1).trans rfl
              go_simp
            intro K hK
            go_simp
            refine hK _ ?_
            clear hK K
            refine wpAnyH_take2 8 (.int .i64 ((m : Int) + 1)) rfl (by kernel_rfl) (by kernel_rfl) (by kernel_rfl) (fun _ _ _ h => h) (.inl ⟨rfl, fun W hW => ?hy9⟩) HS.out ?hk9
            case hy9 =>
              go_simp
              simp [IntKind.wrap, IntKind.bits, IntKind.signed]
              omega
            intro K hK
            go_simp
            refine hK _ ?_
            clear hK K
            refine wpAnyH_take2 9 (.agg #[.slice A0 l0.length c0, .int .i64 a1, .slice (some ad2) l2.length c2]) rfl (by kernel_rfl) (by kernel_rfl) (by kernel_rfl) (fun _ _ _ h => h) (.inl ⟨rfl, fun W hW => ?hy10⟩) HS.out ?hk10
            case hy10 =>
              have g0 : W.cell? ⟨w.heap.size, 0, none⟩ = some (.slice A0 l0.length c0) := (blk_cell hW.af.c0 0).trans rfl
              have g1 : W.cell? ⟨w.heap.size, 1, none⟩ = some (.int .i64 a1) := (blk_cell hW.af.c0 1).trans rfl
              have g2 : W.cell? ⟨w.heap.size, 2, none⟩ = some (.slice (some ad2) l2.length c2) := (blk_cell hW.af.c0 2).trans rfl
              go_simp
            intro K hK
            go_simp
            refine hK _ ?_
            clear hK K
            have HSP := Lib.hid (setsS_spec HBL.out)
            refine wpAnyH_two 10 12 (by kernel_rfl) rfl rfl rfl rfl (fun K hK => ?_) (fun K hK => ?_)
            · go_simp
              refine (sets_any A0 (some ad2) c0 c2 a1 l0 l2 _ (Kd.C_below HC.out HS.out.af.b) HL2.out HGN.out HBL.out).mono ?_
              rintro e w10 ⟨rfl, hsr, hb⟩
              have HSR := Lib.hid hsr
              have HN := Lib.hid (HS.out.below hb)
              clear HS
              have HS := HN
              clear HN hb hsr
              generalize w9.heap.size + 1 = gs at *
              refine hK _ _ HS.out ?_
              clear hK K
              refine wpAnyH_two 11 12 (by kernel_rfl) rfl rfl rfl rfl (fun K hK => ?_) (fun K hK => ?_)
              · go_simp
                have hah := ahead_calls (some ad6) c3 bk (m + 1) gs l2.length (setsS l2) w10 (Kd.C_below HC3.out HS.out.af.b) HC3l.out HSR.out HSR.out.lt (by rw [HSP.out.2.1.len]; exact Nat.le_refl _) (by rw [HSP.out.2.1.len]; exact HBK.out.nx) HBK.out.br HBK.out.rg (by omega)
                rw [HSP.out.2.1.len, show (((m + 1 : Nat) : Int)) = (m : Int) + 1 from by omega] at hah
                refine hah.mono ?_
                clear hah
                rintro e w11 ⟨rfl, hok, hb⟩
                have HOK := Lib.hid hok
                have HN := Lib.hid (HS.out.below hb)
                clear HS HSR
                have HS := HN
                clear HN hb hok
                refine hK _ _ HS.out ?_
                clear hK K
                refine wpAnyH_one 12 (by kernel_rfl) rfl rfl (fun K hK => ?_)
                go_simp
                have hz16 : (zeroW.map wv).toArray = #[.int .u64 0, .int .u64 0, .int .u64 0, .int .u64 0, .int .u64 0, .int .u64 0, .int .u64 0, .int .u64 0, .int .u64 0, .int .u64 0, .int .u64 0, .int .u64 0, .int .u64 0, .int .u64 0, .int .u64 0, .int .u64 0] := rfl
                have HBZ := Lib.hid ((Below.refl w11.heap.size w11).alloc (Nat.le_refl _) (.cells (zeroW.map wv).toArray 98))
                have HN := Lib.hid (HS.out.below HBZ.out)
                have HZ := Lib.hid (show SB (w11.alloc (.cells (zeroW.map wv).toArray 98)) w11.heap.size zeroW from blk_new w11 _)
                have HZG := Lib.hid (show w.heap.size ≤ w11.heap.size from HS.out.af.b.size)
                have HGAC := Lib.hid (show w11.heap.size ≠ cB ∧ w11.heap.size ≠ w.heap.size ∧ w11.heap.size ≠ w.heap.size + 1 from by have := blk_lt HS.out.cb; have := blk_lt HS.out.af.c0; have := blk_lt HS.out.af.c1; omega)
                clear HS HBZ
                have HS := HN
                clear HN
                rw [hz16] at HS HZ
                clear hz16
                generalize w11.alloc (.cells #[.int .u64 0, .int .u64 0, .int .u64 0, .int .u64 0, .int .u64 0, .int .u64 0, .int .u64 0, .int .u64 0, .int .u64 0, .int .u64 0, .int .u64 0, .int .u64 0, .int .u64 0, .int .u64 0, .int .u64 0, .int .u64 0] 98) = wz at *
                generalize w11.heap.size = ga at *
                refine hK _ _ HS.out ?_
                clear hK K
                refine wpAnyH_one 13 (by kernel_rfl) rfl rfl (fun K hK => ?_)
                have hokna := HOK.out
                have h16 : ((aheadW bk (m + 1) (setsS l2)).map wv).toArray.size = 16 := by simp [hokna.1]
                refine wp_store_mid 98 (.tmp 10) (.tmp 71) rfl ga 0 ((aheadW bk (m + 1) (setsS l2)).map wv).toArray rfl rfl (by rw [h16]; exact HZ.out.there okW_zero) (by rw [size98]; simp [hokna.1]) (by simp [wv, Value.oneCell']) ?_
                have HZN := Lib.hid (HZ.out.puts okW_zero hokna)
                have HGP := Lib.hid (grown_puts ga ((aheadW bk (m + 1) (setsS l2)).map wv) 0 wz)
                have HN := Lib.hid (HS.out.grown HZG.out HGP.out HGAC.out)
                rw [show ((aheadW bk (m + 1) (setsS l2)).map wv).toArray.toList = (aheadW bk (m + 1) (setsS l2)).map wv from by simp]
                generalize wz.setCells ga 0 ((aheadW bk (m + 1) (setsS l2)).map wv) = w12 at *
                clear HS HZ HGP h16 hokna
                go_simp
                refine hK _ _ HN.out ?_
                clear hK K
                refine wpAnyH_done (by kernel_rfl) ?_ _
                generalize hna : aheadW bk (m + 1) (setsS l2) = na at *
                have HNA := Lib.hid hna
                clear hna
                have hokc := HN.out.ok
                go_upto_region 12 with fail
                refine wp_region_lit ?_
                refine wpList_load_row rfl 98 (.tmp 7) rfl cB rfl 98 ((changedS l2 n (m + 1)).map wv).toArray (0, 0) (.array 16 96) HN.out.cb Try.underlying98 rfl (by rw [size98]; simp [hokc.1]) ?_
                refine wpList_plain rfl (fun K hK => ?_)
                go_simp
                refine (both_calls ga na (changedS l2 n (m + 1)) _ HZN.out HOK.out hokc).mono ?_
                rintro e w13 ⟨rfl, hs13, hg13⟩
                have HB13 := Lib.hid (HN.out.af.b.grown hg13 HN.out.af.b.size (fun k hk => by cases hk; exact HZG.out))
                have HS13 := Lib.hid hs13
                have HO13 := Lib.hid (okW_both HOK.out hokc)
                refine hK _ _ ?_
                clear hK K hs13 hg13 hokc
                go_upto_region 13 with fail
                refine wp_region_lit ?_
                refine wpList_load_row rfl 98 (.tmp 10) rfl ga rfl 98 ((bothW na (changedS l2 n (m + 1))).map wv).toArray (0, 0) (.array 16 96) HS13.out Try.underlying98 rfl (by rw [size98]; simp [HO13.out.1]) ?_
                refine wpList_plain rfl (fun K hK => ?_)
                go_simp
                refine (list_calls _ HO13.out _).mono ?_
                rintro e w14 ⟨v, rfl, hr14, hb14⟩
                refine hK _ _ ?_
                clear hK K
                go_wp2
                refine bodyPost_ret (v := .tuple #[v, .int .i64 0]) (by simp [results, Try.results22, go_sem]) rfl ⟨v, rfl, by rw [HNA.out]; exact Kd.R_lower hr14 HB13.out.size, below_step HB13.out hb14⟩
              · go_simp
                have hz16 : (zeroW.map wv).toArray = #[.int .u64 0, .int .u64 0, .int .u64 0, .int .u64 0, .int .u64 0, .int .u64 0, .int .u64 0, .int .u64 0, .int .u64 0, .int .u64 0, .int .u64 0, .int .u64 0, .int .u64 0, .int .u64 0, .int .u64 0, .int .u64 0] := rfl
                have HBZ := Lib.hid ((Below.refl w10.heap.size w10).alloc (Nat.le_refl _) (.cells (zeroW.map wv).toArray 98))
                have HN := Lib.hid (HS.out.below HBZ.out)
                have HSRN := Lib.hid (HSR.out.below HBZ.out HSR.out.lt)
                clear HSR
                have HSR := HSRN
                clear HSRN
                have HZ := Lib.hid (show SB (w10.alloc (.cells (zeroW.map wv).toArray 98)) w10.heap.size zeroW from blk_new w10 _)
                have HZG := Lib.hid (show w.heap.size ≤ w10.heap.size from HS.out.af.b.size)
                have HGAC := Lib.hid (show w10.heap.size ≠ cB ∧ w10.heap.size ≠ w.heap.size ∧ w10.heap.size ≠ w.heap.size + 1 from by have := blk_lt HS.out.cb; have := blk_lt HS.out.af.c0; have := blk_lt HS.out.af.c1; omega)
                clear HS HBZ
                have HS := HN
                clear HN
                rw [hz16] at HS HZ HSR
                clear hz16
                generalize w10.alloc (.cells #[.int .u64 0, .int .u64 0, .int .u64 0, .int .u64 0, .int .u64 0, .int .u64 0, .int .u64 0, .int .u64 0, .int .u64 0, .int .u64 0, .int .u64 0, .int .u64 0, .int .u64 0, .int .u64 0, .int .u64 0, .int .u64 0] 98) = wz at *
                generalize w10.heap.size = ga at *
                refine hK _ _ HS.out ?_
                clear hK K
                refine wpAnyH_one 11 (by kernel_rfl) rfl rfl (fun K hK => ?_)
                go_simp
                have hah := ahead_calls (some ad6) c3 bk (m + 1) gs l2.length (setsS l2) wz (Kd.C_below HC3.out HS.out.af.b) HC3l.out HSR.out HSR.out.lt (by rw [HSP.out.2.1.len]; exact Nat.le_refl _) (by rw [HSP.out.2.1.len]; exact HBK.out.nx) HBK.out.br HBK.out.rg (by omega)
                rw [HSP.out.2.1.len, show (((m + 1 : Nat) : Int)) = (m : Int) + 1 from by omega] at hah
                refine hah.mono ?_
                clear hah
                rintro e w11 ⟨rfl, hok, hb⟩
                have HOK := Lib.hid hok
                have HN := Lib.hid (HS.out.below hb)
                have HZN := Lib.hid (show SB w11 ga zeroW from blk_below HZ.out hb)
                clear HZ
                have HZ := HZN
                clear HZN
                clear HS HSR
                have HS := HN
                clear HN hb hok
                refine hK _ _ HS.out ?_
                clear hK K
                refine wpAnyH_one 13 (by kernel_rfl) rfl rfl (fun K hK => ?_)
                have hokna := HOK.out
                have h16 : ((aheadW bk (m + 1) (setsS l2)).map wv).toArray.size = 16 := by simp [hokna.1]
                refine wp_store_mid 98 (.tmp 10) (.tmp 71) rfl ga 0 ((aheadW bk (m + 1) (setsS l2)).map wv).toArray rfl rfl (by rw [h16]; exact HZ.out.there okW_zero) (by rw [size98]; simp [hokna.1]) (by simp [wv, Value.oneCell']) ?_
                have HZN := Lib.hid (HZ.out.puts okW_zero hokna)
                have HGP := Lib.hid (grown_puts ga ((aheadW bk (m + 1) (setsS l2)).map wv) 0 w11)
                have HN := Lib.hid (HS.out.grown HZG.out HGP.out HGAC.out)
                rw [show ((aheadW bk (m + 1) (setsS l2)).map wv).toArray.toList = (aheadW bk (m + 1) (setsS l2)).map wv from by simp]
                generalize w11.setCells ga 0 ((aheadW bk (m + 1) (setsS l2)).map wv) = w12 at *
                clear HS HZ HGP h16 hokna
                go_simp
                refine hK _ _ HN.out ?_
                clear hK K
                refine wpAnyH_done (by kernel_rfl) ?_ _
                generalize hna : aheadW bk (m + 1) (setsS l2) = na at *
                have HNA := Lib.hid hna
                clear hna
                have hokc := HN.out.ok
                go_upto_region 12 with fail
                refine wp_region_lit ?_
                refine wpList_load_row rfl 98 (.tmp 7) rfl cB rfl 98 ((changedS l2 n (m + 1)).map wv).toArray (0, 0) (.array 16 96) HN.out.cb Try.underlying98 rfl (by rw [size98]; simp [hokc.1]) ?_
                refine wpList_plain rfl (fun K hK => ?_)
                go_simp
                refine (both_calls ga na (changedS l2 n (m + 1)) _ HZN.out HOK.out hokc).mono ?_
                rintro e w13 ⟨rfl, hs13, hg13⟩
                have HB13 := Lib.hid (HN.out.af.b.grown hg13 HN.out.af.b.size (fun k hk => by cases hk; exact HZG.out))
                have HS13 := Lib.hid hs13
                have HO13 := Lib.hid (okW_both HOK.out hokc)
                refine hK _ _ ?_
                clear hK K hs13 hg13 hokc
                go_upto_region 13 with fail
                refine wp_region_lit ?_
                refine wpList_load_row rfl 98 (.tmp 10) rfl ga rfl 98 ((bothW na (changedS l2 n (m + 1))).map wv).toArray (0, 0) (.array 16 96) HS13.out Try.underlying98 rfl (by rw [size98]; simp [HO13.out.1]) ?_
                refine wpList_plain rfl (fun K hK => ?_)
                go_simp
                refine (list_calls _ HO13.out _).mono ?_
                rintro e w14 ⟨v, rfl, hr14, hb14⟩
                refine hK _ _ ?_
                clear hK K
                go_wp2
                refine bodyPost_ret (v := .tuple #[v, .int .i64 0]) (by simp [results, Try.results22, go_sem]) rfl ⟨v, rfl, by rw [HNA.out]; exact Kd.R_lower hr14 HB13.out.size, below_step HB13.out hb14⟩
            · go_simp
              have hz16 : (zeroW.map wv).toArray = #[.int .u64 0, .int .u64 0, .int .u64 0, .int .u64 0, .int .u64 0, .int .u64 0, .int .u64 0, .int .u64 0, .int .u64 0, .int .u64 0, .int .u64 0, .int .u64 0, .int .u64 0, .int .u64 0, .int .u64 0, .int .u64 0] := rfl
              have HBZ := Lib.hid ((Below.refl w9.heap.size w9).alloc (Nat.le_refl _) (.cells (zeroW.map wv).toArray 98))
              have HN := Lib.hid (HS.out.below HBZ.out)
              have HZ := Lib.hid (show SB (w9.alloc (.cells (zeroW.map wv).toArray 98)) w9.heap.size zeroW from blk_new w9 _)
              have HZG := Lib.hid (show w.heap.size ≤ w9.heap.size from HS.out.af.b.size)
              have HGAC := Lib.hid (show w9.heap.size ≠ cB ∧ w9.heap.size ≠ w.heap.size ∧ w9.heap.size ≠ w.heap.size + 1 from by have := blk_lt HS.out.cb; have := blk_lt HS.out.af.c0; have := blk_lt HS.out.af.c1; omega)
              clear HS HBZ
              have HS := HN
              clear HN
              rw [hz16] at HS HZ
              clear hz16
              generalize w9.alloc (.cells #[.int .u64 0, .int .u64 0, .int .u64 0, .int .u64 0, .int .u64 0, .int .u64 0, .int .u64 0, .int .u64 0, .int .u64 0, .int .u64 0, .int .u64 0, .int .u64 0, .int .u64 0, .int .u64 0, .int .u64 0, .int .u64 0] 98) = wz at *
              generalize w9.heap.size = ga at *
              refine hK _ _ HS.out ?_
              clear hK K
              refine wpAnyH_one 10 (by kernel_rfl) rfl rfl (fun K hK => ?_)
              go_simp
              refine (sets_any A0 (some ad2) c0 c2 a1 l0 l2 _ (Kd.C_below HC.out HS.out.af.b) HL2.out HGN.out HBL.out).mono ?_
              rintro e w10 ⟨rfl, hsr, hb⟩
              have HSR := Lib.hid hsr
              have HN := Lib.hid (HS.out.below hb)
              have HZN := Lib.hid (show SB w10 ga zeroW from blk_below HZ.out hb)
              clear HZ
              have HZ := HZN
              clear HZN
              clear HS
              have HS := HN
              clear HN hb hsr
              generalize wz.heap.size + 1 = gs at *
              refine hK _ _ HS.out ?_
              clear hK K
              refine wpAnyH_one 11 (by kernel_rfl) rfl rfl (fun K hK => ?_)
              go_simp
              have hah := ahead_calls (some ad6) c3 bk (m + 1) gs l2.length (setsS l2) w10 (Kd.C_below HC3.out HS.out.af.b) HC3l.out HSR.out HSR.out.lt (by rw [HSP.out.2.1.len]; exact Nat.le_refl _) (by rw [HSP.out.2.1.len]; exact HBK.out.nx) HBK.out.br HBK.out.rg (by omega)
              rw [HSP.out.2.1.len, show (((m + 1 : Nat) : Int)) = (m : Int) + 1 from by omega] at hah
              refine hah.mono ?_
              clear hah
              rintro e w11 ⟨rfl, hok, hb⟩
              have HOK := Lib.hid hok
              have HN := Lib.hid (HS.out.below hb)
              have HZN := Lib.hid (show SB w11 ga zeroW from blk_below HZ.out hb)
              clear HZ
              have HZ := HZN
              clear HZN
              clear HS HSR
              have HS := HN
              clear HN hb hok
              refine hK _ _ HS.out ?_
              clear hK K
              refine wpAnyH_one 13 (by kernel_rfl) rfl rfl (fun K hK => ?_)
              have hokna := HOK.out
              have h16 : ((aheadW bk (m + 1) (setsS l2)).map wv).toArray.size = 16 := by simp [hokna.1]
              refine wp_store_mid 98 (.tmp 10) (.tmp 71) rfl ga 0 ((aheadW bk (m + 1) (setsS l2)).map wv).toArray rfl rfl (by rw [h16]; exact HZ.out.there okW_zero) (by rw [size98]; simp [hokna.1]) (by simp [wv, Value.oneCell']) ?_
              have HZN := Lib.hid (HZ.out.puts okW_zero hokna)
              have HGP := Lib.hid (grown_puts ga ((aheadW bk (m + 1) (setsS l2)).map wv) 0 w11)
              have HN := Lib.hid (HS.out.grown HZG.out HGP.out HGAC.out)
              rw [show ((aheadW bk (m + 1) (setsS l2)).map wv).toArray.toList = (aheadW bk (m + 1) (setsS l2)).map wv from by simp]
              generalize w11.setCells ga 0 ((aheadW bk (m + 1) (setsS l2)).map wv) = w12 at *
              clear HS HZ HGP h16 hokna
              go_simp
              refine hK _ _ HN.out ?_
              clear hK K
              refine wpAnyH_done (by kernel_rfl) ?_ _
              generalize hna : aheadW bk (m + 1) (setsS l2) = na at *
              have HNA := Lib.hid hna
              clear hna
              have hokc := HN.out.ok
              go_upto_region 12 with fail
              refine wp_region_lit ?_
              refine wpList_load_row rfl 98 (.tmp 7) rfl cB rfl 98 ((changedS l2 n (m + 1)).map wv).toArray (0, 0) (.array 16 96) HN.out.cb Try.underlying98 rfl (by rw [size98]; simp [hokc.1]) ?_
              refine wpList_plain rfl (fun K hK => ?_)
              go_simp
              refine (both_calls ga na (changedS l2 n (m + 1)) _ HZN.out HOK.out hokc).mono ?_
              rintro e w13 ⟨rfl, hs13, hg13⟩
              have HB13 := Lib.hid (HN.out.af.b.grown hg13 HN.out.af.b.size (fun k hk => by cases hk; exact HZG.out))
              have HS13 := Lib.hid hs13
              have HO13 := Lib.hid (okW_both HOK.out hokc)
              refine hK _ _ ?_
              clear hK K hs13 hg13 hokc
              go_upto_region 13 with fail
              refine wp_region_lit ?_
              refine wpList_load_row rfl 98 (.tmp 10) rfl ga rfl 98 ((bothW na (changedS l2 n (m + 1))).map wv).toArray (0, 0) (.array 16 96) HS13.out Try.underlying98 rfl (by rw [size98]; simp [HO13.out.1]) ?_
              refine wpList_plain rfl (fun K hK => ?_)
              go_simp
              refine (list_calls _ HO13.out _).mono ?_
              rintro e w14 ⟨v, rfl, hr14, hb14⟩
              refine hK _ _ ?_
              clear hK K
              go_wp2
              refine bodyPost_ret (v := .tuple #[v, .int .i64 0]) (by simp [results, Try.results22, go_sem]) rfl ⟨v, rfl, by rw [HNA.out]; exact Kd.R_lower hr14 HB13.out.size, below_step HB13.out hb14⟩
          · go_simp
            refine hK _ _ ?_
            clear hK K
            refine wpAny_one 0 (by kernel_rfl) (wpOp_plain rfl rfl (fun K hK => ?_))
            go_simp
            refine hK _ _ ?_
            clear hK K
            refine wpAny_one 2 (by kernel_rfl) (wpOp_plain rfl rfl (fun K hK => ?_))
            go_simp
            refine (live_there.calls A0 c0 l0 a1 (some ad2) c2 l2 n m _ _ (Kd.C_below HC0.out HFd.out.b) HL0.out (Kd.C_below HC.out HFd.out.b) HL2.out ((there_f l0 a1 l2 n m).trans (congrArg some htb))).mono ?_
            rintro e w4 ⟨rfl, hb4⟩
            have HF4 := Lib.hid (HFd.out.below hb4)
            refine hK _ _ ?_
            clear hK K hb4 g0 g1 g2 s0 s1
            have g2 : w4.cell? ⟨w.heap.size, 2, none⟩ = some (.slice (some ad2) l2.length c2) := (blk_cell HF4.out.c0 2).trans rfl
            have s0 : w4.cell? ⟨w.heap.size + 1, 0, none⟩ = some (.int .i64 n) := (blk_cell HF4.out.c1 0).trans rfl
            have s1 : w4.cell? ⟨w.heap.size + 1, 1, none⟩ = some (.int .i64 m) := (blk_cell HF4.out.c1 1).trans rfl
            have b0 := pw_cell_below HF4.out.b HEC.out.1
            have d0 := pw_cell_below HF4.out.b HDC.out
            refine wpAny_one 3 (by kernel_rfl) (wpOp_plain rfl rfl (fun K hK => ?_))
            go_simp
            refine hK _ _ ?_
            clear hK K
            refine wpAny_one 4 (by kernel_rfl) (wpOp_plain rfl rfl (fun K hK => ?_))
            go_simp
            refine hK _ _ ?_
            clear hK K
            refine wpAny_still_five (by kernel_rfl) (by kernel_rfl) (by kernel_rfl) ?_
            iterate 27 (refine bs_step (fun K hK => ?_); go_simp; refine hK _ ?_; clear hK K)
            refine bs_nil ?_
            have hz16 : (zeroW.map wv).toArray = #[.int .u64 0, .int .u64 0, .int .u64 0, .int .u64 0, .int .u64 0, .int .u64 0, .int .u64 0, .int .u64 0, .int .u64 0, .int .u64 0, .int .u64 0, .int .u64 0, .int .u64 0, .int .u64 0, .int .u64 0, .int .u64 0] := rfl
            have HB4 := Lib.hid ((Below.refl w4.heap.size w4).alloc (Nat.le_refl _) (.cells (zeroW.map wv).toArray 98))
            have HF5 := Lib.hid (HF4.out.below HB4.out)
            have HS5 := Lib.hid (show SB (w4.alloc (.cells (zeroW.map wv).toArray 98)) w4.heap.size zeroW from blk_new w4 _)
            have HCB := Lib.hid HF4.out.b.size
            rw [hz16] at HF5 HS5
            clear HB4 hz16 HF4 g2 s0 s1 b0 d0
            go_upto_region 7 with fail
            generalize (w4.alloc (.cells #[.int .u64 0, .int .u64 0, .int .u64 0, .int .u64 0, .int .u64 0, .int .u64 0, .int .u64 0, .int .u64 0, .int .u64 0, .int .u64 0, .int .u64 0, .int .u64 0, .int .u64 0, .int .u64 0, .int .u64 0, .int .u64 0] 98)) = w5 at *
            generalize w4.heap.size = cB at *
            have g2 : w5.cell? ⟨w.heap.size, 2, none⟩ = some (.slice (some ad2) l2.length c2) := (blk_cell HF5.out.c0 2).trans rfl
            have hmk := make22 l2.length (by have := HGN.out; omega)
            have hu22 := Try.underlying22
            go_upto_region 8 with fail
            clear hmk g2
            have HB6 := Lib.hid (((Below.refl w5.heap.size w5).alloc (Nat.le_refl _) (.cells (Array.replicate l2.length (.bool false)) 4)).alloc (by simp) (.cells #[.slice (some ⟨w5.heap.size, 0, none⟩) l2.length l2.length] 22))
            have HF6 := Lib.hid (HF5.out.below HB6.out)
            have HS6 := Lib.hid (blk_below HS5.out HB6.out)
            have HV6 := Lib.hid (show BB ((w5.alloc (.cells (Array.replicate l2.length (.bool false)) 4)).alloc (.cells #[.slice (some ⟨w5.heap.size, 0, none⟩) l2.length l2.length] 22)) w5.heap.size (List.replicate l2.length false) from by
              have := blk_alloc (blk_new w5 (.cells (Array.replicate l2.length (.bool false)) 4)) (.cells #[.slice (some ⟨w5.heap.size, 0, none⟩) l2.length l2.length] 22)
              unfold BB
              rw [List.map_replicate, List.toArray_replicate]
              exact this)
            have HM6 := Lib.hid (show ((w5.alloc (.cells (Array.replicate l2.length (.bool false)) 4)).alloc (.cells #[.slice (some ⟨w5.heap.size, 0, none⟩) l2.length l2.length] 22)).heap[w5.heap.size + 1]? = some (.cells #[.slice (some ⟨w5.heap.size, 0, none⟩) l2.length l2.length] 22 (0, 0)) from by
              have := blk_new (w5.alloc (.cells (Array.replicate l2.length (.bool false)) 4)) (.cells #[.slice (some ⟨w5.heap.size, 0, none⟩) l2.length l2.length] 22)
              rwa [show (w5.alloc (.cells (Array.replicate l2.length (.bool false)) 4)).heap.size = w5.heap.size + 1 from by simp] at this)
            have HMV := Lib.hid HF5.out.b.size
            clear HB6 HF5 HS5
            generalize (w5.alloc (.cells (Array.replicate l2.length (.bool false)) 4)).alloc (.cells #[.slice (some ⟨w5.heap.size, 0, none⟩) l2.length l2.length] 22) = w6 at *
            generalize hmb : w5.heap.size + 1 = mB at *
            generalize w5.heap.size = mv at *
            clear hmb
            go_upto_region 10 with fail
            have HB7 := Lib.hid ((Below.refl w6.heap.size w6).alloc (Nat.le_refl _) (.cells #[.func (.func 61) #[] #[.pointer (some ⟨w.heap.size, 0, none⟩), .pointer (some ⟨cB, 0, none⟩), .pointer (some ⟨mB, 0, none⟩), .pointer (some ⟨w6.heap.size, 0, none⟩)]] 101))
            have HF7 := Lib.hid (HF6.out.below HB7.out)
            have HAW := Lib.hid (show AlW w w.heap.size cB mB mv w6.heap.size l2.length c0 c2 l0.length A0 (some ad2) a1 zeroW (List.replicate l2.length false) (w6.alloc (.cells #[.func (.func 61) #[] #[.pointer (some ⟨w.heap.size, 0, none⟩), .pointer (some ⟨cB, 0, none⟩), .pointer (some ⟨mB, 0, none⟩), .pointer (some ⟨w6.heap.size, 0, none⟩)]] 101)) from
              ⟨HF7.out.b, HF7.out.c0, blk_below HS6.out HB7.out, blk_below HM6.out HB7.out, blk_below HV6.out HB7.out, blk_new w6 _, okW_zero, by simp, HCB.out, HMV.out⟩)
            clear HB7 HF6 HS6 HM6 HV6
            generalize w6.alloc (.cells #[.func (.func 61) #[] #[.pointer (some ⟨w.heap.size, 0, none⟩), .pointer (some ⟨cB, 0, none⟩), .pointer (some ⟨mB, 0, none⟩), .pointer (some ⟨w6.heap.size, 0, none⟩)]] 101) = w7 at *
            generalize w6.heap.size = aB at *
            have f0 : w7.cell? ⟨aB, 0, none⟩ = some (.func (.func 61) #[] #[.pointer (some ⟨w.heap.size, 0, none⟩), .pointer (some ⟨cB, 0, none⟩), .pointer (some ⟨mB, 0, none⟩), .pointer (some ⟨aB, 0, none⟩)]) := (blk_cell HAW.out.a 0).trans rfl
            have s0 : w7.cell? ⟨w.heap.size + 1, 0, none⟩ = some (.int .i64 n) := (blk_cell HF7.out.c1 0).trans rfl
            have s1 : w7.cell? ⟨w.heap.size + 1, 1, none⟩ = some (.int .i64 m) := (blk_cell HF7.out.c1 1).trans rfl
            have hal := along_calls w w.heap.size cB mB mv aB c0 c2 l0.length A0 (some ad2) a1 l2 HC.out HBL.out HGN.out (l2.length + 1) n (m + 1) zeroW (List.replicate l2.length false) w7 (by rw [unset_rep]; omega) hlt2 (by rw [HBE.out]; omega) (by rw [HBE.out]; exact hlb) HTOT.out HAW.out
            rw [show (((m + 1 : Nat) : Int)) = (m : Int) + 1 from by omega] at hal
            have HAL := Lib.hid hal
            clear hal
            go_wp2_with (go_at_call 61; go_loud (refine HAL.out.mono ?_; rintro e w8 ⟨rfl, hA8, hG8⟩; have HA8 := Lib.hid hA8; have HG8 := Lib.hid hG8; clear hA8 hG8))
            have HS8 := Lib.hid (show SvF w #[.slice A0 l0.length c0, .int .i64 a1, .slice (some ad2) l2.length c2] n m cB (changedS l2 n (m + 1)) w8 from
              ⟨⟨HA8.out.b, HA8.out.g, (HG8.out.block _ (blk_lt HF7.out.c1) (types_ne HF7.out.c1 HAW.out.c (by decide)) (types_ne HF7.out.c1 HAW.out.v (by decide))).trans HF7.out.c1⟩, HA8.out.c, HA8.out.ok⟩)
            clear HAL HA8 HG8 HAW HF7 f0 s0 s1
            refine wp_region_held (S := fun W => SvF w #[.slice A0 l0.length c0, .int .i64 a1, .slice (some ad2) l2.length c2] n m cB (changedS l2 n (m + 1)) W) (by kernel_rfl) ?_
            have HS := Lib.hid HS8.out.drew
            change wpAnyH _ _ _ _ _ 14 _ _ w8.drew
            clear HS8
            generalize w8.drew = w9 at *
            refine wpAnyH_take2 0 (.pointer (some ⟨w.heap.size, 2, none⟩)) rfl (by kernel_rfl) (by kernel_rfl) (by kernel_rfl) (fun _ _ _ h => h) (.inl ⟨rfl, fun W hW => ?hy11⟩) HS.out ?hk11
            case hy11 =>
              go_simp
            intro K hK
            go_simp
            refine hK _ ?_
            clear hK K
            refine wpAnyH_take2 1 (.slice (some ad2) l2.length c2) rfl (by kernel_rfl) (by kernel_rfl) (by kernel_rfl) (fun _ _ _ h => h) (.inl ⟨rfl, fun W hW => ?hy12⟩) HS.out ?hk12
            case hy12 =>
              have g2 : W.cell? ⟨w.heap.size, 2, none⟩ = some (.slice (some ad2) l2.length c2) := (blk_cell hW.af.c0 2).trans rfl
              go_simp
            intro K hK
            go_simp
            refine hK _ ?_
            clear hK K
            refine wpAnyH_take2 2 (.pointer (some ⟨w.heap.size + 1, 0, none⟩)) rfl (by kernel_rfl) (by kernel_rfl) (by kernel_rfl) (fun _ _ _ h => h) (.inl ⟨rfl, fun W hW => ?hy13⟩) HS.out ?hk13
            case hy13 =>
              go_simp
            intro K hK
            go_simp
            refine hK _ ?_
            clear hK K
            refine wpAnyH_take2 3 (.int .i64 n) rfl (by kernel_rfl) (by kernel_rfl) (by kernel_rfl) (fun _ _ _ h => h) (.inl ⟨rfl, fun W hW => ?hy14⟩) HS.out ?hk14
            case hy14 =>
              have s0 : W.cell? ⟨w.heap.size + 1, 0, none⟩ = some (.int .i64 n) := (blk_cell hW.af.c1 0).trans rfl
              go_simp
            intro K hK
            go_simp
            refine hK _ ?_
            clear hK K
            refine wpAnyH_take2 4 (.pointer (some (ad2.add (n * 5)))) rfl (by kernel_rfl) (by kernel_rfl) (by kernel_rfl) (fun _ _ _ h => h) (.inl ⟨rfl, fun W hW => ?hy15⟩) HS.out ?hk15
            case hy15 =>
              go_simp
            intro K hK
            go_simp
            refine hK _ ?_
            clear hK K
            refine wpAnyH_take2 5 (.agg #[.slice (some ad6) bk.f0.length c3, .int .u8 bk.f1, .int .i64 bk.f2, .int .i64 bk.f3, .int .i64 bk.f4]) rfl (by kernel_rfl) (by kernel_rfl) (by kernel_rfl) (fun _ _ _ h => h) (.inl ⟨rfl, fun W hW => ?hy16⟩) HS.out ?hk16
            case hy16 =>
              have b0 := pw_cell_below hW.af.b HEC.out.1
              have b1 := pw_cell_below hW.af.b HEC.out.2.1
              have b2 := pw_cell_below hW.af.b HEC.out.2.2.1
              have b3 := pw_cell_below hW.af.b HEC.out.2.2.2.1
              have b4 := pw_cell_below hW.af.b HEC.out.2.2.2.2
              go_simp
            intro K hK
            go_simp
            refine hK _ ?_
            clear hK K
            refine wpAnyH_take2 6 (.pointer (some ⟨w.heap.size + 1, 1, none⟩)) rfl (by kernel_rfl) (by kernel_rfl) (by kernel_rfl) (fun _ _ _ h => h) (.inl ⟨rfl, fun W hW => ?hy17⟩) HS.out ?hk17
            case hy17 =>
              go_simp
            intro K hK
            go_simp
            refine hK _ ?_
            clear hK K
            refine wpAnyH_take2 7 (.int .i64 m) rfl (by kernel_rfl) (by kernel_rfl) (by kernel_rfl) (fun _ _ _ h => h) (.inl ⟨rfl, fun W hW => ?hy18⟩) HS.out ?hk18
            case hy18 =>
              have s1 : W.cell? ⟨w.heap.size + 1, 1, none⟩ = some (.int .i64 m) := (blk_cell hW.af.c1 1).trans rfl
              go_simp
            intro K hK
            go_simp
            refine hK _ ?_
            clear hK K
            refine wpAnyH_take2 8 (.int .i64 ((m : Int) + 1)) rfl (by kernel_rfl) (by kernel_rfl) (by kernel_rfl) (fun _ _ _ h => h) (.inl ⟨rfl, fun W hW => ?hy19⟩) HS.out ?hk19
            case hy19 =>
              go_simp
              simp [IntKind.wrap, IntKind.bits, IntKind.signed]
              omega
            intro K hK
            go_simp
            refine hK _ ?_
            clear hK K
            refine wpAnyH_take2 9 (.agg #[.slice A0 l0.length c0, .int .i64 a1, .slice (some ad2) l2.length c2]) rfl (by kernel_rfl) (by kernel_rfl) (by kernel_rfl) (fun _ _ _ h => h) (.inl ⟨rfl, fun W hW => ?hy20⟩) HS.out ?hk20
            case hy20 =>
              have g0 : W.cell? ⟨w.heap.size, 0, none⟩ = some (.slice A0 l0.length c0) := (blk_cell hW.af.c0 0).trans rfl
              have g1 : W.cell? ⟨w.heap.size, 1, none⟩ = some (.int .i64 a1) := (blk_cell hW.af.c0 1).trans rfl
              have g2 : W.cell? ⟨w.heap.size, 2, none⟩ = some (.slice (some ad2) l2.length c2) := (blk_cell hW.af.c0 2).trans rfl
              go_simp
            intro K hK
            go_simp
            refine hK _ ?_
            clear hK K
            have HSP := Lib.hid (setsS_spec HBL.out)
            refine wpAnyH_two 10 12 (by kernel_rfl) rfl rfl rfl rfl (fun K hK => ?_) (fun K hK => ?_)
            · go_simp
              refine (sets_any A0 (some ad2) c0 c2 a1 l0 l2 _ (Kd.C_below HC.out HS.out.af.b) HL2.out HGN.out HBL.out).mono ?_
              rintro e w10 ⟨rfl, hsr, hb⟩
              have HSR := Lib.hid hsr
              have HN := Lib.hid (HS.out.below hb)
              clear HS
              have HS := HN
              clear HN hb hsr
              generalize w9.heap.size + 1 = gs at *
              refine hK _ _ HS.out ?_
              clear hK K
              refine wpAnyH_two 11 12 (by kernel_rfl) rfl rfl rfl rfl (fun K hK => ?_) (fun K hK => ?_)
              · go_simp
                have hah := ahead_calls (some ad6) c3 bk (m + 1) gs l2.length (setsS l2) w10 (Kd.C_below HC3.out HS.out.af.b) HC3l.out HSR.out HSR.out.lt (by rw [HSP.out.2.1.len]; exact Nat.le_refl _) (by rw [HSP.out.2.1.len]; exact HBK.out.nx) HBK.out.br HBK.out.rg (by omega)
                rw [HSP.out.2.1.len, show (((m + 1 : Nat) : Int)) = (m : Int) + 1 from by omega] at hah
                refine hah.mono ?_
                clear hah
                rintro e w11 ⟨rfl, hok, hb⟩
                have HOK := Lib.hid hok
                have HN := Lib.hid (HS.out.below hb)
                clear HS HSR
                have HS := HN
                clear HN hb hok
                refine hK _ _ HS.out ?_
                clear hK K
                refine wpAnyH_one 12 (by kernel_rfl) rfl rfl (fun K hK => ?_)
                go_simp
                have hz16 : (zeroW.map wv).toArray = #[.int .u64 0, .int .u64 0, .int .u64 0, .int .u64 0, .int .u64 0, .int .u64 0, .int .u64 0, .int .u64 0, .int .u64 0, .int .u64 0, .int .u64 0, .int .u64 0, .int .u64 0, .int .u64 0, .int .u64 0, .int .u64 0] := rfl
                have HBZ := Lib.hid ((Below.refl w11.heap.size w11).alloc (Nat.le_refl _) (.cells (zeroW.map wv).toArray 98))
                have HN := Lib.hid (HS.out.below HBZ.out)
                have HZ := Lib.hid (show SB (w11.alloc (.cells (zeroW.map wv).toArray 98)) w11.heap.size zeroW from blk_new w11 _)
                have HZG := Lib.hid (show w.heap.size ≤ w11.heap.size from HS.out.af.b.size)
                have HGAC := Lib.hid (show w11.heap.size ≠ cB ∧ w11.heap.size ≠ w.heap.size ∧ w11.heap.size ≠ w.heap.size + 1 from by have := blk_lt HS.out.cb; have := blk_lt HS.out.af.c0; have := blk_lt HS.out.af.c1; omega)
                clear HS HBZ
                have HS := HN
                clear HN
                rw [hz16] at HS HZ
                clear hz16
                generalize w11.alloc (.cells #[.int .u64 0, .int .u64 0, .int .u64 0, .int .u64 0, .int .u64 0, .int .u64 0, .int .u64 0, .int .u64 0, .int .u64 0, .int .u64 0, .int .u64 0, .int .u64 0, .int .u64 0, .int .u64 0, .int .u64 0, .int .u64 0] 98) = wz at *
                generalize w11.heap.size = ga at *
                refine hK _ _ HS.out ?_
                clear hK K
                refine wpAnyH_one 13 (by kernel_rfl) rfl rfl (fun K hK => ?_)
                have hokna := HOK.out
                have h16 : ((aheadW bk (m + 1) (setsS l2)).map wv).toArray.size = 16 := by simp [hokna.1]
                refine wp_store_mid 98 (.tmp 10) (.tmp 71) rfl ga 0 ((aheadW bk (m + 1) (setsS l2)).map wv).toArray rfl rfl (by rw [h16]; exact HZ.out.there okW_zero) (by rw [size98]; simp [hokna.1]) (by simp [wv, Value.oneCell']) ?_
                have HZN := Lib.hid (HZ.out.puts okW_zero hokna)
                have HGP := Lib.hid (grown_puts ga ((aheadW bk (m + 1) (setsS l2)).map wv) 0 wz)
                have HN := Lib.hid (HS.out.grown HZG.out HGP.out HGAC.out)
                rw [show ((aheadW bk (m + 1) (setsS l2)).map wv).toArray.toList = (aheadW bk (m + 1) (setsS l2)).map wv from by simp]
                generalize wz.setCells ga 0 ((aheadW bk (m + 1) (setsS l2)).map wv) = w12 at *
                clear HS HZ HGP h16 hokna
                go_simp
                refine hK _ _ HN.out ?_
                clear hK K
                refine wpAnyH_done (by kernel_rfl) ?_ _
                generalize hna : aheadW bk (m + 1) (setsS l2) = na at *
                have HNA := Lib.hid hna
                clear hna
                have hokc := HN.out.ok
                go_upto_region 12 with fail
                refine wp_region_lit ?_
                refine wpList_load_row rfl 98 (.tmp 7) rfl cB rfl 98 ((changedS l2 n (m + 1)).map wv).toArray (0, 0) (.array 16 96) HN.out.cb Try.underlying98 rfl (by rw [size98]; simp [hokc.1]) ?_
                refine wpList_plain rfl (fun K hK => ?_)
                go_simp
                refine (both_calls ga na (changedS l2 n (m + 1)) _ HZN.out HOK.out hokc).mono ?_
                rintro e w13 ⟨rfl, hs13, hg13⟩
                have HB13 := Lib.hid (HN.out.af.b.grown hg13 HN.out.af.b.size (fun k hk => by cases hk; exact HZG.out))
                have HS13 := Lib.hid hs13
                have HO13 := Lib.hid (okW_both HOK.out hokc)
                refine hK _ _ ?_
                clear hK K hs13 hg13 hokc
                go_upto_region 13 with fail
                refine wp_region_lit ?_
                refine wpList_load_row rfl 98 (.tmp 10) rfl ga rfl 98 ((bothW na (changedS l2 n (m + 1))).map wv).toArray (0, 0) (.array 16 96) HS13.out Try.underlying98 rfl (by rw [size98]; simp [HO13.out.1]) ?_
                refine wpList_plain rfl (fun K hK => ?_)
                go_simp
                refine (list_calls _ HO13.out _).mono ?_
                rintro e w14 ⟨v, rfl, hr14, hb14⟩
                refine hK _ _ ?_
                clear hK K
                go_wp2
                refine bodyPost_ret (v := .tuple #[v, .int .i64 0]) (by simp [results, Try.results22, go_sem]) rfl ⟨v, rfl, by rw [HNA.out]; exact Kd.R_lower hr14 HB13.out.size, below_step HB13.out hb14⟩
              · go_simp
                have hz16 : (zeroW.map wv).toArray = #[.int .u64 0, .int .u64 0, .int .u64 0, .int .u64 0, .int .u64 0, .int .u64 0, .int .u64 0, .int .u64 0, .int .u64 0, .int .u64 0, .int .u64 0, .int .u64 0, .int .u64 0, .int .u64 0, .int .u64 0, .int .u64 0] := rfl
                have HBZ := Lib.hid ((Below.refl w10.heap.size w10).alloc (Nat.le_refl _) (.cells (zeroW.map wv).toArray 98))
                have HN := Lib.hid (HS.out.below HBZ.out)
                have HSRN := Lib.hid (HSR.out.below HBZ.out HSR.out.lt)
                clear HSR
                have HSR := HSRN
                clear HSRN
                have HZ := Lib.hid (show SB (w10.alloc (.cells (zeroW.map wv).toArray 98)) w10.heap.size zeroW from blk_new w10 _)
                have HZG := Lib.hid (show w.heap.size ≤ w10.heap.size from HS.out.af.b.size)
                have HGAC := Lib.hid (show w10.heap.size ≠ cB ∧ w10.heap.size ≠ w.heap.size ∧ w10.heap.size ≠ w.heap.size + 1 from by have := blk_lt HS.out.cb; have := blk_lt HS.out.af.c0; have := blk_lt HS.out.af.c1; omega)
                clear HS HBZ
                have HS := HN
                clear HN
                rw [hz16] at HS HZ HSR
                clear hz16
                generalize w10.alloc (.cells #[.int .u64 0, .int .u64 0, .int .u64 0, .int .u64 0, .int .u64 0, .int .u64 0, .int .u64 0, .int .u64 0, .int .u64 0, .int .u64 0, .int .u64 0, .int .u64 0, .int .u64 0, .int .u64 0, .int .u64 0, .int .u64 0] 98) = wz at *
                generalize w10.heap.size = ga at *
                refine hK _ _ HS.out ?_
                clear hK K
                refine wpAnyH_one 11 (by kernel_rfl) rfl rfl (fun K hK => ?_)
                go_simp
                have hah := ahead_calls (some ad6) c3 bk (m + 1) gs l2.length (setsS l2) wz (Kd.C_below HC3.out HS.out.af.b) HC3l.out HSR.out HSR.out.lt (by rw [HSP.out.2.1.len]; exact Nat.le_refl _) (by rw [HSP.out.2.1.len]; exact HBK.out.nx) HBK.out.br HBK.out.rg (by omega)
                rw [HSP.out.2.1.len, show (((m + 1 : Nat) : Int)) = (m : Int) + 1 from by omega] at hah
                refine hah.mono ?_
                clear hah
                rintro e w11 ⟨rfl, hok, hb⟩
                have HOK := Lib.hid hok
                have HN := Lib.hid (HS.out.below hb)
                have HZN := Lib.hid (show SB w11 ga zeroW from blk_below HZ.out hb)
                clear HZ
                have HZ := HZN
                clear HZN
                clear HS HSR
                have HS := HN
                clear HN hb hok
                refine hK _ _ HS.out ?_
                clear hK K
                refine wpAnyH_one 13 (by kernel_rfl) rfl rfl (fun K hK => ?_)
                have hokna := HOK.out
                have h16 : ((aheadW bk (m + 1) (setsS l2)).map wv).toArray.size = 16 := by simp [hokna.1]
                refine wp_store_mid 98 (.tmp 10) (.tmp 71) rfl ga 0 ((aheadW bk (m + 1) (setsS l2)).map wv).toArray rfl rfl (by rw [h16]; exact HZ.out.there okW_zero) (by rw [size98]; simp [hokna.1]) (by simp [wv, Value.oneCell']) ?_
                have HZN := Lib.hid (HZ.out.puts okW_zero hokna)
                have HGP := Lib.hid (grown_puts ga ((aheadW bk (m + 1) (setsS l2)).map wv) 0 w11)
                have HN := Lib.hid (HS.out.grown HZG.out HGP.out HGAC.out)
                rw [show ((aheadW bk (m + 1) (setsS l2)).map wv).toArray.toList = (aheadW bk (m + 1) (setsS l2)).map wv from by simp]
                generalize w11.setCells ga 0 ((aheadW bk (m + 1) (setsS l2)).map wv) = w12 at *
                clear HS HZ HGP h16 hokna
                go_simp
                refine hK _ _ HN.out ?_
                clear hK K
                refine wpAnyH_done (by kernel_rfl) ?_ _
                generalize hna : aheadW bk (m + 1) (setsS l2) = na at *
                have HNA := Lib.hid hna
                clear hna
                have hokc := HN.out.ok
                go_upto_region 12 with fail
                refine wp_region_lit ?_
                refine wpList_load_row rfl 98 (.tmp 7) rfl cB rfl 98 ((changedS l2 n (m + 1)).map wv).toArray (0, 0) (.array 16 96) HN.out.cb Try.underlying98 rfl (by rw [size98]; simp [hokc.1]) ?_
                refine wpList_plain rfl (fun K hK => ?_)
                go_simp
                refine (both_calls ga na (changedS l2 n (m + 1)) _ HZN.out HOK.out hokc).mono ?_
                rintro e w13 ⟨rfl, hs13, hg13⟩
                have HB13 := Lib.hid (HN.out.af.b.grown hg13 HN.out.af.b.size (fun k hk => by cases hk; exact HZG.out))
                have HS13 := Lib.hid hs13
                have HO13 := Lib.hid (okW_both HOK.out hokc)
                refine hK _ _ ?_
                clear hK K hs13 hg13 hokc
                go_upto_region 13 with fail
                refine wp_region_lit ?_
                refine wpList_load_row rfl 98 (.tmp 10) rfl ga rfl 98 ((bothW na (changedS l2 n (m + 1))).map wv).toArray (0, 0) (.array 16 96) HS13.out Try.underlying98 rfl (by rw [size98]; simp [HO13.out.1]) ?_
                refine wpList_plain rfl (fun K hK => ?_)
                go_simp
                refine (list_calls _ HO13.out _).mono ?_
                rintro e w14 ⟨v, rfl, hr14, hb14⟩
                refine hK _ _ ?_
                clear hK K
                go_wp2
                refine bodyPost_ret (v := .tuple #[v, .int .i64 0]) (by simp [results, Try.results22, go_sem]) rfl ⟨v, rfl, by rw [HNA.out]; exact Kd.R_lower hr14 HB13.out.size, below_step HB13.out hb14⟩
            · go_simp
              have hz16 : (zeroW.map wv).toArray = #[.int .u64 0, .int .u64 0, .int .u64 0, .int .u64 0, .int .u64 0, .int .u64 0, .int .u64 0, .int .u64 0, .int .u64 0, .int .u64 0, .int .u64 0, .int .u64 0, .int .u64 0, .int .u64 0, .int .u64 0, .int .u64 0] := rfl
              have HBZ := Lib.hid ((Below.refl w9.heap.size w9).alloc (Nat.le_refl _) (.cells (zeroW.map wv).toArray 98))
              have HN := Lib.hid (HS.out.below HBZ.out)
              have HZ := Lib.hid (show SB (w9.alloc (.cells (zeroW.map wv).toArray 98)) w9.heap.size zeroW from blk_new w9 _)
              have HZG := Lib.hid (show w.heap.size ≤ w9.heap.size from HS.out.af.b.size)
              have HGAC := Lib.hid (show w9.heap.size ≠ cB ∧ w9.heap.size ≠ w.heap.size ∧ w9.heap.size ≠ w.heap.size + 1 from by have := blk_lt HS.out.cb; have := blk_lt HS.out.af.c0; have := blk_lt HS.out.af.c1; omega)
              clear HS HBZ
              have HS := HN
              clear HN
              rw [hz16] at HS HZ
              clear hz16
              generalize w9.alloc (.cells #[.int .u64 0, .int .u64 0, .int .u64 0, .int .u64 0, .int .u64 0, .int .u64 0, .int .u64 0, .int .u64 0, .int .u64 0, .int .u64 0, .int .u64 0, .int .u64 0, .int .u64 0, .int .u64 0, .int .u64 0, .int .u64 0] 98) = wz at *
              generalize w9.heap.size = ga at *
              refine hK _ _ HS.out ?_
              clear hK K
              refine wpAnyH_one 10 (by kernel_rfl) rfl rfl (fun K hK => ?_)
              go_simp
              refine (sets_any A0 (some ad2) c0 c2 a1 l0 l2 _ (Kd.C_below HC.out HS.out.af.b) HL2.out HGN.out HBL.out).mono ?_
              rintro e w10 ⟨rfl, hsr, hb⟩
              have HSR := Lib.hid hsr
              have HN := Lib.hid (HS.out.below hb)
              have HZN := Lib.hid (show SB w10 ga zeroW from blk_below HZ.out hb)
              clear HZ
              have HZ := HZN
              clear HZN
              clear HS
              have HS := HN
              clear HN hb hsr
              generalize wz.heap.size + 1 = gs at *
              refine hK _ _ HS.out ?_
              clear hK K
              refine wpAnyH_one 11 (by kernel_rfl) rfl rfl (fun K hK => ?_)
              go_simp
              have hah := ahead_calls (some ad6) c3 bk (m + 1) gs l2.length (setsS l2) w10 (Kd.C_below HC3.out HS.out.af.b) HC3l.out HSR.out HSR.out.lt (by rw [HSP.out.2.1.len]; exact Nat.le_refl _) (by rw [HSP.out.2.1.len]; exact HBK.out.nx) HBK.out.br HBK.out.rg (by omega)
              rw [HSP.out.2.1.len, show (((m + 1 : Nat) : Int)) = (m : Int) + 1 from by omega] at hah
              refine hah.mono ?_
              clear hah
              rintro e w11 ⟨rfl, hok, hb⟩
              have HOK := Lib.hid hok
              have HN := Lib.hid (HS.out.below hb)
              have HZN := Lib.hid (show SB w11 ga zeroW from blk_below HZ.out hb)
              clear HZ
              have HZ := HZN
              clear HZN
              clear HS HSR
              have HS := HN
              clear HN hb hok
              refine hK _ _ HS.out ?_
              clear hK K
              refine wpAnyH_one 13 (by kernel_rfl) rfl rfl (fun K hK => ?_)
              have hokna := HOK.out
              have h16 : ((aheadW bk (m + 1) (setsS l2)).map wv).toArray.size = 16 := by simp [hokna.1]
              refine wp_store_mid 98 (.tmp 10) (.tmp 71) rfl ga 0 ((aheadW bk (m + 1) (setsS l2)).map wv).toArray rfl rfl (by rw [h16]; exact HZ.out.there okW_zero) (by rw [size98]; simp [hokna.1]) (by simp [wv, Value.oneCell']) ?_
              have HZN := Lib.hid (HZ.out.puts okW_zero hokna)
              have HGP := Lib.hid (grown_puts ga ((aheadW bk (m + 1) (setsS l2)).map wv) 0 w11)
              have HN := Lib.hid (HS.out.grown HZG.out HGP.out HGAC.out)
              rw [show ((aheadW bk (m + 1) (setsS l2)).map wv).toArray.toList = (aheadW bk (m + 1) (setsS l2)).map wv from by simp]
              generalize w11.setCells ga 0 ((aheadW bk (m + 1) (setsS l2)).map wv) = w12 at *
              clear HS HZ HGP h16 hokna
              go_simp
              refine hK _ _ HN.out ?_
              clear hK K
              refine wpAnyH_done (by kernel_rfl) ?_ _
              generalize hna : aheadW bk (m + 1) (setsS l2) = na at *
              have HNA := Lib.hid hna
              clear hna
              have hokc := HN.out.ok
              go_upto_region 12 with fail
              refine wp_region_lit ?_
              refine wpList_load_row rfl 98 (.tmp 7) rfl cB rfl 98 ((changedS l2 n (m + 1)).map wv).toArray (0, 0) (.array 16 96) HN.out.cb Try.underlying98 rfl (by rw [size98]; simp [hokc.1]) ?_
              refine wpList_plain rfl (fun K hK => ?_)
              go_simp
              refine (both_calls ga na (changedS l2 n (m + 1)) _ HZN.out HOK.out hokc).mono ?_
              rintro e w13 ⟨rfl, hs13, hg13⟩
              have HB13 := Lib.hid (HN.out.af.b.grown hg13 HN.out.af.b.size (fun k hk => by cases hk; exact HZG.out))
              have HS13 := Lib.hid hs13
              have HO13 := Lib.hid (okW_both HOK.out hokc)
              refine hK _ _ ?_
              clear hK K hs13 hg13 hokc
              go_upto_region 13 with fail
              refine wp_region_lit ?_
              refine wpList_load_row rfl 98 (.tmp 10) rfl ga rfl 98 ((bothW na (changedS l2 n (m + 1))).map wv).toArray (0, 0) (.array 16 96) HS13.out Try.underlying98 rfl (by rw [size98]; simp [HO13.out.1]) ?_
              refine wpList_plain rfl (fun K hK => ?_)
              go_simp
              refine (list_calls _ HO13.out _).mono ?_
              rintro e w14 ⟨v, rfl, hr14, hb14⟩
              refine hK _ _ ?_
              clear hK K
              go_wp2
              refine bodyPost_ret (v := .tuple #[v, .int .i64 0]) (by simp [results, Try.results22, go_sem]) rfl ⟨v, rfl, by rw [HNA.out]; exact Kd.R_lower hr14 HB13.out.size, below_step HB13.out hb14⟩
        · have hkb : ((rd_T46 bk.f0 (m : Nat)).f0 != 13) = true := by simpa using hk
          rw [HSN.out (by rw [HGO.out]; simp [hk])]
          clear hk
          generalize (rd_T46 bk.f0 (m : Nat)).f0 = kd at *
          go_enter Try.func22, Try.ntmps22
          go_wp2_with (go_at_call 56; go_loud (refine (check_calls (Kd.C_below HC0.out HF.out.b) HL0.out (Kd.C_below HC.out HF.out.b) HL2.out hs).mono ?_; rintro e w3 ⟨rfl, hb3⟩; have HF3 := Lib.hid (HF.out.below hb3); clear hb3))
          refine wp_region_any (by kernel_rfl) ?_
          have HFd := Lib.hid HF3.out.drew
          change wpAny _ _ _ _ 32 _ _ w3.drew
          have g0 : w3.drew.cell? ⟨w.heap.size, 0, none⟩ = some (.slice A0 l0.length c0) := (blk_cell HFd.out.c0 0).trans rfl
          have g1 : w3.drew.cell? ⟨w.heap.size, 1, none⟩ = some (.int .i64 a1) := (blk_cell HFd.out.c0 1).trans rfl
          have g2 : w3.drew.cell? ⟨w.heap.size, 2, none⟩ = some (.slice (some ad2) l2.length c2) := (blk_cell HFd.out.c0 2).trans rfl
          have s0 : w3.drew.cell? ⟨w.heap.size + 1, 0, none⟩ = some (.int .i64 n) := (blk_cell HFd.out.c1 0).trans rfl
          have s1 : w3.drew.cell? ⟨w.heap.size + 1, 1, none⟩ = some (.int .i64 m) := (blk_cell HFd.out.c1 1).trans rfl
          generalize w3.drew = w3d at *
          clear HF3 HF
          refine wpAny_two 0 1 (by kernel_rfl) (wpOp_plain rfl rfl (fun K hK => ?_)) (wpOp_plain rfl rfl (fun K hK => ?_))
          · go_simp
            refine hK _ _ ?_
            clear hK K
            refine wpAny_one 1 (by kernel_rfl) (wpOp_plain rfl rfl (fun K hK => ?_))
            go_simp
            refine hK _ _ ?_
            clear hK K
            refine wpAny_one 2 (by kernel_rfl) (wpOp_plain rfl rfl (fun K hK => ?_))
            go_simp
            refine (live_there.calls A0 c0 l0 a1 (some ad2) c2 l2 n m _ _ (Kd.C_below HC0.out HFd.out.b) HL0.out (Kd.C_below HC.out HFd.out.b) HL2.out ((there_f l0 a1 l2 n m).trans (congrArg some htb))).mono ?_
            rintro e w4 ⟨rfl, hb4⟩
            have HF4 := Lib.hid (HFd.out.below hb4)
            refine hK _ _ ?_
            clear hK K hb4 g0 g1 g2 s0 s1
            have g2 : w4.cell? ⟨w.heap.size, 2, none⟩ = some (.slice (some ad2) l2.length c2) := (blk_cell HF4.out.c0 2).trans rfl
            have s0 : w4.cell? ⟨w.heap.size + 1, 0, none⟩ = some (.int .i64 n) := (blk_cell HF4.out.c1 0).trans rfl
            have s1 : w4.cell? ⟨w.heap.size + 1, 1, none⟩ = some (.int .i64 m) := (blk_cell HF4.out.c1 1).trans rfl
            have b0 := pw_cell_below HF4.out.b HEC.out.1
            have d0 := pw_cell_below HF4.out.b HDC.out
            refine wpAny_one 3 (by kernel_rfl) (wpOp_plain rfl rfl (fun K hK => ?_))
            go_simp
            refine hK _ _ ?_
            clear hK K
            refine wpAny_one 4 (by kernel_rfl) (wpOp_plain rfl rfl (fun K hK => ?_))
            go_simp
            refine hK _ _ ?_
            clear hK K
            refine wpAny_still_five (by kernel_rfl) (by kernel_rfl) (by kernel_rfl) ?_
            iterate 27 (refine bs_step (fun K hK => ?_); go_simp; refine hK _ ?_; clear hK K)
            refine bs_nil ?_
            go_wp2
            refine bodyPost_ret (v := .tuple #[.slice none 0 0, .int .i64 1]) (by simp [results, Try.results22, go_sem]) rfl ⟨_, rfl, Kd.R_nil _ _ _ _ _, HF4.out.b⟩
          · go_simp
            refine hK _ _ ?_
            clear hK K
            refine wpAny_one 0 (by kernel_rfl) (wpOp_plain rfl rfl (fun K hK => ?_))
            go_simp
            refine hK _ _ ?_
            clear hK K
            refine wpAny_one 2 (by kernel_rfl) (wpOp_plain rfl rfl (fun K hK => ?_))
            go_simp
            refine (live_there.calls A0 c0 l0 a1 (some ad2) c2 l2 n m _ _ (Kd.C_below HC0.out HFd.out.b) HL0.out (Kd.C_below HC.out HFd.out.b) HL2.out ((there_f l0 a1 l2 n m).trans (congrArg some htb))).mono ?_
            rintro e w4 ⟨rfl, hb4⟩
            have HF4 := Lib.hid (HFd.out.below hb4)
            refine hK _ _ ?_
            clear hK K hb4 g0 g1 g2 s0 s1
            have g2 : w4.cell? ⟨w.heap.size, 2, none⟩ = some (.slice (some ad2) l2.length c2) := (blk_cell HF4.out.c0 2).trans rfl
            have s0 : w4.cell? ⟨w.heap.size + 1, 0, none⟩ = some (.int .i64 n) := (blk_cell HF4.out.c1 0).trans rfl
            have s1 : w4.cell? ⟨w.heap.size + 1, 1, none⟩ = some (.int .i64 m) := (blk_cell HF4.out.c1 1).trans rfl
            have b0 := pw_cell_below HF4.out.b HEC.out.1
            have d0 := pw_cell_below HF4.out.b HDC.out
            refine wpAny_one 3 (by kernel_rfl) (wpOp_plain rfl rfl (fun K hK => ?_))
            go_simp
            refine hK _ _ ?_
            clear hK K
            refine wpAny_one 4 (by kernel_rfl) (wpOp_plain rfl rfl (fun K hK => ?_))
            go_simp
            refine hK _ _ ?_
            clear hK K
            refine wpAny_still_five (by kernel_rfl) (by kernel_rfl) (by kernel_rfl) ?_
            iterate 27 (refine bs_step (fun K hK => ?_); go_simp; refine hK _ ?_; clear hK K)
            refine bs_nil ?_
            go_wp2
            refine bodyPost_ret (v := .tuple #[.slice none 0 0, .int .i64 1]) (by simp [results, Try.results22, go_sem]) rfl ⟨_, rfl, Kd.R_nil _ _ _ _ _, HF4.out.b⟩
  · have hcb : (gE l0 a1 l2 != 0) = true := by simpa using hE
    have HE := Lib.hid hE
    clear hE
    go_enter Try.func22, Try.ntmps22
    go_wp2_with (go_at_call 56; go_loud (refine (check_calls (Kd.C_below HC0.out HF.out.b) HL0.out (Kd.C_below HC.out HF.out.b) HL2.out hs).mono ?_; rintro e w3 ⟨rfl, hb3⟩; have HF3 := Lib.hid (HF.out.below hb3); clear hb3))
    go_ret2
    refine ⟨.slice none 0 0, ?_, ?_, HF3.out.b⟩
    · unfold savedS
      rw [if_pos HE.out]
      rfl
    · unfold savedS
      rw [if_pos HE.out]
      exact Kd.R_nil _ _ _ _ _
end Go.Proofs.Ytjmeignhhheckaa.H
namespace Go.Proofs.Ytjmeignhhheckaa.Q
open Go.RowKit Go.Proofs.YtjmeignhhheckaaW.PrintWords Go.Proofs.YtjmeignhhheckaaW.PrintLast
/-- live.Saved, where no block is too long -/
def live_Saved.f (l0 : List Bool) (a1 : Int) (bs : List S36) (sb si : Int) : Option (List Int × Int) := if H.smallG bs then some (H.savedS l0 a1 bs sb si) else none
theorem live_Saved.calls (A0 : Option Addr) (c0 : Nat) (l0 : List Bool) (a1 : Int) (A2 : Option Addr) (c2 : Nat) (l2 : List S36) (sb si : Int) (r1 : List Int) (r2 : Int) (w : World) (h0 : Kd.C Kd.bool w A0 l0.length l0) (hc0 : l0.length ≤ c0) (h2 : Kd.C k36 w A2 l2.length l2) (hc2 : l2.length ≤ c2) (h : live_Saved.f l0 a1 l2 sb si = some (r1, r2)) :
    Calls Try.prog 22 #[.agg #[.slice A0 l0.length c0, .int .i64 a1, .slice A2 l2.length c2], .agg #[.int .i64 sb, .int .i64 si]] w fun e w' => ∃ v0_ : Value, e = .returned (.tuple #[v0_, .int .i64 r2]) ∧ Kd.R (Kd.int .i64) 3 w' w.heap.size (fun _ => True) v0_ r1 ∧ Below w.heap.size w w' := by
  unfold live_Saved.f at h
  split at h
  · rename_i hs
    have h := Option.some.inj h
    have := H.saved_calls A0 A2 c0 c2 l0 a1 l2 sb si w h0 hc0 h2 hc2 hs
    rw [h] at this
    exact this
  · cases h
end Go.Proofs.Ytjmeignhhheckaa.Q
namespace Go.Proofs.Ytjmeignhhheckaa.Q
open Go.RowKit Go.Proofs.YtjmeignhhheckaaW.PrintWords Go.Proofs.YtjmeignhhheckaaW.PrintLast Go.Proofs.YtjmeignhhheckaaW.PrintMore
attribute [local go_sem] max2_int min2_int max_two min_two max_three min_three max_four min_four   -- for this text's walks alone
set_option linter.unusedVariables false
set_option linter.unusedSimpArgs false
def turnstilelaw01_SameNumbers.l0 : Nat → List Int → List Int → Int → Int → Option (Bool)
  | 0, _, _, _, _ => none
  | k + 1, x0, x1, x12, x13 => if x13 < x12 then (if 0 ≤ x13 then (if x13 < (x0.length : Int) then (if x13 < (x1.length : Int) then (if (rd x0 x13) = (rd x1 x13) then (turnstilelaw01_SameNumbers.l0 k x0 x1 x12 (wrap64 (x13 + 1))) else (some false)) else (none)) else (none)) else (none)) else (some true)
def turnstilelaw01_SameNumbers.f (k : Nat) (l0 : List Int) (l1 : List Int) : Option (Bool) := if (l0.length : Int) = (l1.length : Int) then (turnstilelaw01_SameNumbers.l0 k l0 l1 (l0.length : Int) 0) else (some false)
theorem turnstilelaw01_SameNumbers.mono_l : ∀ k, (∀ y0 y1 y2 y3, LeO (turnstilelaw01_SameNumbers.l0 k y0 y1 y2 y3) (turnstilelaw01_SameNumbers.l0 (k + 1) y0 y1 y2 y3))
  | 0 => fun _ _ _ _ r h => by simp [turnstilelaw01_SameNumbers.l0] at h
  | k + 1 => by
    have ih0 := turnstilelaw01_SameNumbers.mono_l k
    · intro y0 y1 y2 y3
      unfold turnstilelaw01_SameNumbers.l0
      repeat' first
      | (with_reducible exact ih0 _ _ _ _)
      | (with_reducible exact LeO.refl _)
      | (with_reducible exact LeO.none _)
      | (with_reducible refine LeO.ite ?_ ?_)
      | (with_reducible refine LeO.bind ?_ (fun _ => ?_))
      | exact ih0 _ _ _ _
      | exact LeO.none _
      | refine LeO.ite ?_ ?_
      | refine LeO.bind ?_ (fun _ => ?_)
theorem turnstilelaw01_SameNumbers.mono : ∀ a0 a1 k, LeO (turnstilelaw01_SameNumbers.f k a0 a1) (turnstilelaw01_SameNumbers.f (k + 1) a0 a1) := by
  intro a0 a1 k
  have ih0 := turnstilelaw01_SameNumbers.mono_l k
  unfold turnstilelaw01_SameNumbers.f
  repeat' first
      | (with_reducible exact ih0 _ _ _ _)
      | (with_reducible exact LeO.refl _)
      | (with_reducible exact LeO.none _)
      | (with_reducible refine LeO.ite ?_ ?_)
      | (with_reducible refine LeO.bind ?_ (fun _ => ?_))
      | exact ih0 _ _ _ _
      | exact LeO.none _
      | refine LeO.ite ?_ ?_
      | refine LeO.bind ?_ (fun _ => ?_)
set_option maxHeartbeats 8000000 in
set_option maxRecDepth 100000 in
theorem turnstilelaw01_SameNumbers.calls (k : Nat) (A0 : Option Addr) (c0 : Nat) (l0 : List Int) (A1 : Option Addr) (c1 : Nat) (l1 : List Int) (r : Bool) (w : World) (hr0 : Kd.C (Kd.int .i64) w A0 l0.length l0) (hc0 : l0.length ≤ c0) (hr1 : Kd.C (Kd.int .i64) w A1 l1.length l1) (hc1 : l1.length ≤ c1) (h : turnstilelaw01_SameNumbers.f k l0 l1 = some r) :
    Calls Try.prog 21 #[.slice A0 l0.length c0, .slice A1 l1.length c1] w fun e w' => e = .returned (.bool r) ∧ Drawn0 w w' := by
  have HR0 := Aside0.mk hr0
  have HC0 := Aside0.mk hc0
  clear hr0 hc0
  have HR1 := Aside0.mk hr1
  have HC1 := Aside0.mk hc1
  clear hr1 hc1
  have H : (if (l0.length : Int) = (l1.length : Int) then (turnstilelaw01_SameNumbers.l0 k l0 l1 (l0.length : Int) 0) else (some false)) = some r := h
  clear h
  by_cases c3 : (l0.length : Int) = (l1.length : Int)
  · rw [if_pos c3] at H
    have c3b0 : ((l0.length : Int) == (l1.length : Int)) = true := beq_iff_eq.mpr c3
    have c3b1 : ((l0.length : Int) != (l1.length : Int)) = false := bne_eq_false_iff_eq.mpr c3
    have c3b2 : (l0.length == l1.length) = true := by first | simpa using c3 | (simp at c3 ⊢; omega)
    clear c3
    have H' := Aside0.mk H
    clear H
    go_enter Try.func21, Try.ntmps21
    go_wp2
    repeat (go_quiet (fail); try go_wp2)
    go_loopg [13] k (fun kq v13 w' => ∃ (x13_1 : Int), v13 = .int .i64 x13_1 ∧ Aside0 (turnstilelaw01_SameNumbers.l0 kq l0 l1 (l0.length : Int) x13_1 = some r) ∧ Aside0 (kq ≤ k) ∧ Drawn0 w w')
    case atStart => exact ⟨(0), (by first | rfl | (simp; done) | (simp [*]; done)), H', ⟨Nat.le_refl _⟩, by repeat (first | exact Drawn0.refl _ | apply Drawn0.step)⟩
    case round =>
      clear H'
      try clear c1
      try clear c2
      try clear p2
      try clear c3
      try clear c3b0
      try clear c3b1
      try clear c3b2
      obtain ⟨x13_1, rfl, HA, HK1, ⟨m1, rfl⟩⟩ := hrel
      cases gk with
      | zero => exact absurd HA.out (by simp [turnstilelaw01_SameNumbers.l0])
      | succ k1 =>
        have H := HA.out
        clear HA
        simp only [turnstilelaw01_SameNumbers.l0] at H
        by_cases c4 : x13_1 < (l0.length : Int)
        · rw [if_pos c4] at H
          have c4b0 : decide (x13_1 < (l0.length : Int)) = true := decide_eq_true c4
          clear c4
          by_cases c5 : 0 ≤ x13_1
          · rw [if_pos c5] at H
            have c5b0 : decide (0 ≤ x13_1) = true := decide_eq_true c5
            clear c5
            by_cases c6 : x13_1 < (l0.length : Int)
            · rw [if_pos c6] at H
              have c6b0 : decide (x13_1 < (l0.length : Int)) = true := decide_eq_true c6
              clear c6
              by_cases c7 : x13_1 < (l1.length : Int)
              · rw [if_pos c7] at H
                have c7b0 : decide (x13_1 < (l1.length : Int)) = true := decide_eq_true c7
                clear c7
                by_cases c8 : (rd l0 x13_1) = (rd l1 x13_1)
                · rw [if_pos c8] at H
                  have c8b0 : ((rd l0 x13_1) == (rd l1 x13_1)) = true := beq_iff_eq.mpr c8
                  have c8b1 : ((rd l0 x13_1) != (rd l1 x13_1)) = false := bne_eq_false_iff_eq.mpr c8
                  clear c8
                  have H' := Aside0.mk H
                  clear H
                  have p182 : 0 ≤ (x13_1 : Int) := of_decide_eq_true (by first | (with_reducible assumption) | assumption)
                  have q182 : x13_1 < (l0.length : Int) := of_decide_eq_true (by first | (with_reducible assumption) | assumption)
                  obtain ⟨ad182, e182, hx182_0⟩ := Kd.at_int HR0.out x13_1 p182 q182
                  cases e182
                  replace p182 := eq_true p182
                  replace q182 := eq_true q182
                  have p183 : 0 ≤ (x13_1 : Int) := of_decide_eq_true (by first | (with_reducible assumption) | assumption)
                  have q183 : x13_1 < (l1.length : Int) := of_decide_eq_true (by first | (with_reducible assumption) | assumption)
                  obtain ⟨ad183, e183, hx183_0⟩ := Kd.at_int HR1.out x13_1 p183 q183
                  cases e183
                  replace p183 := eq_true p183
                  replace q183 := eq_true q183
                  go_wp2
                  repeat (go_quiet (fail); try go_wp2)
                  go_roundg k1
                  case measure => have := HK1.out; omega
                  case rel => exact ⟨(wrap64 (x13_1 + 1)), (by first | rfl | (simp; done) | (simp [*]; done)), H', ⟨by have := HK1.out; omega⟩, by repeat (first | exact Drawn0.refl _ | apply Drawn0.step)⟩
                · rw [if_neg c8] at H
                  have c8b0 : ((rd l0 x13_1) == (rd l1 x13_1)) = false := beq_eq_false_iff_ne.mpr c8
                  have c8b1 : ((rd l0 x13_1) != (rd l1 x13_1)) = true := bne_iff_ne.mpr c8
                  obtain rfl := Option.some.inj H
                  have p182 : 0 ≤ (x13_1 : Int) := of_decide_eq_true (by first | (with_reducible assumption) | assumption)
                  have q182 : x13_1 < (l0.length : Int) := of_decide_eq_true (by first | (with_reducible assumption) | assumption)
                  obtain ⟨ad182, e182, hx182_0⟩ := Kd.at_int HR0.out x13_1 p182 q182
                  cases e182
                  replace p182 := eq_true p182
                  replace q182 := eq_true q182
                  have p183 : 0 ≤ (x13_1 : Int) := of_decide_eq_true (by first | (with_reducible assumption) | assumption)
                  have q183 : x13_1 < (l1.length : Int) := of_decide_eq_true (by first | (with_reducible assumption) | assumption)
                  obtain ⟨ad183, e183, hx183_0⟩ := Kd.at_int HR1.out x13_1 p183 q183
                  cases e183
                  replace p183 := eq_true p183
                  replace q183 := eq_true q183
                  go_wp2
                  repeat (go_quiet (fail); try go_wp2)
                  go_ret
                  exact ⟨by first | rfl | (simp; done) | (simp [*]; done), by repeat (first | exact Drawn0.refl _ | apply Drawn0.step)⟩
              · rw [if_neg c7] at H
                exact absurd H (by simp)
            · rw [if_neg c6] at H
              exact absurd H (by simp)
          · rw [if_neg c5] at H
            exact absurd H (by simp)
        · rw [if_neg c4] at H
          have c4b0 : decide (x13_1 < (l0.length : Int)) = false := decide_eq_false c4
          clear c4
          obtain rfl := Option.some.inj H
          go_wp2
          repeat (go_quiet (fail); try go_wp2)
          go_ret
          exact ⟨by first | rfl | (simp; done) | (simp [*]; done), by repeat (first | exact Drawn0.refl _ | apply Drawn0.step)⟩
  · rw [if_neg c3] at H
    have c3b0 : ((l0.length : Int) == (l1.length : Int)) = false := beq_eq_false_iff_ne.mpr c3
    have c3b1 : ((l0.length : Int) != (l1.length : Int)) = true := bne_iff_ne.mpr c3
    have c3b2 : (l0.length == l1.length) = false := by first | simpa using c3 | (simp at c3 ⊢; omega)
    obtain rfl := Option.some.inj H
    go_enter Try.func21, Try.ntmps21
    go_wp2
    repeat (go_quiet (fail); try go_wp2)
    go_ret
    exact ⟨by first | rfl | (simp; done) | (simp [*]; done), by repeat (first | exact Drawn0.refl _ | apply Drawn0.step)⟩
end Go.Proofs.Ytjmeignhhheckaa.Q
namespace Go.Proofs.Ytjmeignhhheckaa.Q
open Go.RowKit Go.Proofs.YtjmeignhhheckaaW.PrintWords Go.Proofs.YtjmeignhhheckaaW.PrintLast Go.Proofs.YtjmeignhhheckaaW.PrintMore
attribute [local go_sem] max2_int min2_int max_two min_two max_three min_three max_four min_four   -- for this text's walks alone
set_option linter.unusedVariables false
set_option linter.unusedSimpArgs false
def turnstilelaw13_alive.f (k : Nat)  : Option (Bool) := (some (([false, false] : List Bool) : List Bool)).bind fun y184 => ((some (([(⟨(([(⟨13, 0, 0, 0, 0, 0⟩ : S46), (⟨3, 1, 0, 0, 1, 0⟩ : S46), (⟨14, 0, 0, 0, 0, 0⟩ : S46), (⟨12, 0, 0, 0, 0, 0⟩ : S46)] : List (S46))), 3, 0, 0, 0⟩ : S36)] : List (S36)) : List (S36))).bind fun y190 => ((live_In.f y184 0 y190).bind fun bt194 => ((live_Saved.f y184 0 y190 0 0).bind fun bt198 => ((live_At.f y184 0 y190 1 0).bind fun bt202 => (if bt194.2 = 0 then (if bt198.2 = 0 then (if bt202.2 = 1 then (if (bt194.1.length : Int) = 1 then (if 0 < (bt194.1.length : Int) then ((turnstilelaw01_SameNumbers.f k (rd_L13 bt194.1 0) (([0, 1] : List Int))).bind fun t210 => (if t210 = true then ((turnstilelaw01_SameNumbers.f k bt198.1 (([0] : List Int))).bind fun t214 => (some t214)) else (some false))) else (none)) else (some false)) else (some false)) else (some false)) else (some false))))))
theorem turnstilelaw13_alive.mono : ∀ k, LeO (turnstilelaw13_alive.f k ) (turnstilelaw13_alive.f (k + 1) ) := by
  intro  k
  unfold turnstilelaw13_alive.f
  repeat' first
      | (with_reducible exact turnstilelaw01_SameNumbers.mono _ _ _)
      | (with_reducible exact LeO.refl _)
      | (with_reducible exact LeO.none _)
      | (with_reducible refine LeO.ite ?_ ?_)
      | (with_reducible refine LeO.bind ?_ (fun _ => ?_))
      | exact turnstilelaw01_SameNumbers.mono _ _ _
      | exact LeO.none _
      | refine LeO.ite ?_ ?_
      | refine LeO.bind ?_ (fun _ => ?_)
theorem turnstilelaw13_alive.yes (k : Nat) (r : Bool) (h : turnstilelaw13_alive.f k = some r) : r = true := by
  have h1 : ∀ d, turnstilelaw13_alive.f (k + d) = some r := fun d => by
    induction d with
    | zero => exact h
    | succ d ih => exact turnstilelaw13_alive.mono (k + d) _ ih
  have h0 : turnstilelaw13_alive.f 50 = some true := by kernel_rfl
  have h2 : ∀ d, turnstilelaw13_alive.f (50 + d) = some true := fun d => by
    induction d with
    | zero => exact h0
    | succ d ih => exact turnstilelaw13_alive.mono (50 + d) _ ih
  have h3 := h2 k
  rw [Nat.add_comm] at h3
  exact Option.some.inj ((h1 50).symm.trans h3)
set_option maxHeartbeats 8000000 in
set_option maxRecDepth 100000 in
theorem turnstilelaw13_alive.calls (k : Nat)  (r : Bool) (w : World) (h : turnstilelaw13_alive.f k  = some r) :
    Calls Try.prog 16 #[] w fun e w' => e = .returned (.bool r) ∧ Below w.heap.size w w' := by
  have hu46 := Try.underlying46
  have hu36 := Try.underlying36
  have hu25 := Try.underlying25
  have hu41 := Try.underlying41
  have HB := Aside0.mk (Below.refl w.heap.size w)
  have hyes := Aside0.mk (turnstilelaw13_alive.yes k r h)
  have H : ((some (([false, false] : List Bool) : List Bool)).bind fun y184 => ((some (([(⟨(([(⟨13, 0, 0, 0, 0, 0⟩ : S46), (⟨3, 1, 0, 0, 1, 0⟩ : S46), (⟨14, 0, 0, 0, 0, 0⟩ : S46), (⟨12, 0, 0, 0, 0, 0⟩ : S46)] : List (S46))), 3, 0, 0, 0⟩ : S36)] : List (S36)) : List (S36))).bind fun y190 => ((live_In.f y184 0 y190).bind fun bt194 => ((live_Saved.f y184 0 y190 0 0).bind fun bt198 => ((live_At.f y184 0 y190 1 0).bind fun bt202 => (if bt194.2 = 0 then (if bt198.2 = 0 then (if bt202.2 = 1 then (if (bt194.1.length : Int) = 1 then (if 0 < (bt194.1.length : Int) then ((turnstilelaw01_SameNumbers.f k (rd_L13 bt194.1 0) (([0, 1] : List Int))).bind fun t210 => (if t210 = true then ((turnstilelaw01_SameNumbers.f k bt198.1 (([0] : List Int))).bind fun t214 => (some t214)) else (some false))) else (none)) else (some false)) else (some false)) else (some false)) else (some false))))))) = some r := h
  clear h
  obtain ⟨y184, hy184⟩ : ∃ y_ : List Bool, y_ = (([false, false] : List Bool)) := ⟨_, rfl⟩
  replace H : ((some (([(⟨(([(⟨13, 0, 0, 0, 0, 0⟩ : S46), (⟨3, 1, 0, 0, 1, 0⟩ : S46), (⟨14, 0, 0, 0, 0, 0⟩ : S46), (⟨12, 0, 0, 0, 0, 0⟩ : S46)] : List (S46))), 3, 0, 0, 0⟩ : S36)] : List (S36)) : List (S36))).bind fun y190 => ((live_In.f y184 0 y190).bind fun bt194 => ((live_Saved.f y184 0 y190 0 0).bind fun bt198 => ((live_At.f y184 0 y190 1 0).bind fun bt202 => (if bt194.2 = 0 then (if bt198.2 = 0 then (if bt202.2 = 1 then (if (bt194.1.length : Int) = 1 then (if 0 < (bt194.1.length : Int) then ((turnstilelaw01_SameNumbers.f k (rd_L13 bt194.1 0) (([0, 1] : List Int))).bind fun t210 => (if t210 = true then ((turnstilelaw01_SameNumbers.f k bt198.1 (([0] : List Int))).bind fun t214 => (some t214)) else (some false))) else (none)) else (some false)) else (some false)) else (some false)) else (some false)))))) = some r := by first | (rw [hy184]; with_reducible exact H) | (have H2_ := (Option.bind_some _ _).symm.trans H; rw [hy184]; with_reducible exact H2_) | (have H2_ := (Option.bind_some _ _).symm.trans H; with_reducible exact H2_) | with_reducible exact H | (rw [hy184]; exact H) | exact H
  have Ny184 := Aside0.mk hy184
  clear hy184
  obtain ⟨y187, hy187⟩ : ∃ y_ : List (S46), y_ = (([(⟨13, 0, 0, 0, 0, 0⟩ : S46), (⟨3, 1, 0, 0, 1, 0⟩ : S46), (⟨14, 0, 0, 0, 0, 0⟩ : S46), (⟨12, 0, 0, 0, 0, 0⟩ : S46)] : List (S46))) := ⟨_, rfl⟩
  replace H : ((some (([(⟨y187, 3, 0, 0, 0⟩ : S36)] : List (S36)) : List (S36))).bind fun y190 => ((live_In.f y184 0 y190).bind fun bt194 => ((live_Saved.f y184 0 y190 0 0).bind fun bt198 => ((live_At.f y184 0 y190 1 0).bind fun bt202 => (if bt194.2 = 0 then (if bt198.2 = 0 then (if bt202.2 = 1 then (if (bt194.1.length : Int) = 1 then (if 0 < (bt194.1.length : Int) then ((turnstilelaw01_SameNumbers.f k (rd_L13 bt194.1 0) (([0, 1] : List Int))).bind fun t210 => (if t210 = true then ((turnstilelaw01_SameNumbers.f k bt198.1 (([0] : List Int))).bind fun t214 => (some t214)) else (some false))) else (none)) else (some false)) else (some false)) else (some false)) else (some false)))))) = some r := by first | (rw [hy187]; with_reducible exact H) | (have H2_ := (Option.bind_some _ _).symm.trans H; rw [hy187]; with_reducible exact H2_) | (have H2_ := (Option.bind_some _ _).symm.trans H; with_reducible exact H2_) | with_reducible exact H | (rw [hy187]; exact H) | exact H
  have Ny187 := Aside0.mk hy187
  clear hy187
  obtain ⟨y190, hy190⟩ : ∃ y_ : List (S36), y_ = (([(⟨y187, 3, 0, 0, 0⟩ : S36)] : List (S36))) := ⟨_, rfl⟩
  replace H : ((live_In.f y184 0 y190).bind fun bt194 => ((live_Saved.f y184 0 y190 0 0).bind fun bt198 => ((live_At.f y184 0 y190 1 0).bind fun bt202 => (if bt194.2 = 0 then (if bt198.2 = 0 then (if bt202.2 = 1 then (if (bt194.1.length : Int) = 1 then (if 0 < (bt194.1.length : Int) then ((turnstilelaw01_SameNumbers.f k (rd_L13 bt194.1 0) (([0, 1] : List Int))).bind fun t210 => (if t210 = true then ((turnstilelaw01_SameNumbers.f k bt198.1 (([0] : List Int))).bind fun t214 => (some t214)) else (some false))) else (none)) else (some false)) else (some false)) else (some false)) else (some false))))) = some r := by first | (rw [hy190]; with_reducible exact H) | (have H2_ := (Option.bind_some _ _).symm.trans H; rw [hy190]; with_reducible exact H2_) | (have H2_ := (Option.bind_some _ _).symm.trans H; with_reducible exact H2_) | with_reducible exact H | (rw [hy190]; exact H) | exact H
  have Ny190 := Aside0.mk hy190
  clear hy190
  replace H := Option.bind_eq_some_iff.mp H
  obtain ⟨⟨t194, t197⟩, A10, H⟩ := H
  replace H : ((live_Saved.f y184 0 y190 0 0).bind fun bt198 => ((live_At.f y184 0 y190 1 0).bind fun bt202 => (if t197 = 0 then (if bt198.2 = 0 then (if bt202.2 = 1 then (if (t194.length : Int) = 1 then (if 0 < (t194.length : Int) then ((turnstilelaw01_SameNumbers.f k (rd_L13 t194 0) (([0, 1] : List Int))).bind fun t210 => (if t210 = true then ((turnstilelaw01_SameNumbers.f k bt198.1 (([0] : List Int))).bind fun t214 => (some t214)) else (some false))) else (none)) else (some false)) else (some false)) else (some false)) else (some false)))) = some r := H
  have A1 := Aside0.mk A10
  clear A10
  replace H := Option.bind_eq_some_iff.mp H
  obtain ⟨⟨t198, t201⟩, A20, H⟩ := H
  replace H : ((live_At.f y184 0 y190 1 0).bind fun bt202 => (if t197 = 0 then (if t201 = 0 then (if bt202.2 = 1 then (if (t194.length : Int) = 1 then (if 0 < (t194.length : Int) then ((turnstilelaw01_SameNumbers.f k (rd_L13 t194 0) (([0, 1] : List Int))).bind fun t210 => (if t210 = true then ((turnstilelaw01_SameNumbers.f k t198 (([0] : List Int))).bind fun t214 => (some t214)) else (some false))) else (none)) else (some false)) else (some false)) else (some false)) else (some false))) = some r := H
  have A2 := Aside0.mk A20
  clear A20
  replace H := Option.bind_eq_some_iff.mp H
  obtain ⟨⟨t202, t205⟩, A30, H⟩ := H
  replace H : (if t197 = 0 then (if t201 = 0 then (if t205 = 1 then (if (t194.length : Int) = 1 then (if 0 < (t194.length : Int) then ((turnstilelaw01_SameNumbers.f k (rd_L13 t194 0) (([0, 1] : List Int))).bind fun t210 => (if t210 = true then ((turnstilelaw01_SameNumbers.f k t198 (([0] : List Int))).bind fun t214 => (some t214)) else (some false))) else (none)) else (some false)) else (some false)) else (some false)) else (some false)) = some r := H
  have A3 := Aside0.mk A30
  clear A30
  by_cases c4 : t197 = 0
  · rw [if_pos c4] at H
    have c4b0 : (t197 == 0) = true := beq_iff_eq.mpr c4
    have c4b1 : (t197 != 0) = false := bne_eq_false_iff_eq.mpr c4
    clear c4
    by_cases c5 : t201 = 0
    · rw [if_pos c5] at H
      have c5b0 : (t201 == 0) = true := beq_iff_eq.mpr c5
      have c5b1 : (t201 != 0) = false := bne_eq_false_iff_eq.mpr c5
      clear c5
      by_cases c6 : t205 = 1
      · rw [if_pos c6] at H
        have c6b0 : (t205 == 1) = true := beq_iff_eq.mpr c6
        have c6b1 : (t205 != 1) = false := bne_eq_false_iff_eq.mpr c6
        clear c6
        by_cases c7 : (t194.length : Int) = 1
        · rw [if_pos c7] at H
          have c7b0 : ((t194.length : Int) == 1) = true := beq_iff_eq.mpr c7
          have c7b1 : ((t194.length : Int) != 1) = false := bne_eq_false_iff_eq.mpr c7
          clear c7
          by_cases c8 : 0 < (t194.length : Int)
          · rw [if_pos c8] at H
            have c8b0 : decide (0 < (t194.length : Int)) = true := decide_eq_true c8
            have c8b1 : decide (0 < t194.length) = true := decide_eq_true (by omega)
            clear c8
            obtain ⟨y207, hy207⟩ : ∃ y_ : List Int, y_ = (([0, 1] : List Int)) := ⟨_, rfl⟩
            replace H : ((turnstilelaw01_SameNumbers.f k (rd_L13 t194 0) y207).bind fun t210 => (if t210 = true then ((turnstilelaw01_SameNumbers.f k t198 (([0] : List Int))).bind fun t214 => (some t214)) else (some false))) = some r := by first | (rw [hy207]; with_reducible exact H) | (have H2_ := (Option.bind_some _ _).symm.trans H; rw [hy207]; with_reducible exact H2_) | (have H2_ := (Option.bind_some _ _).symm.trans H; with_reducible exact H2_) | with_reducible exact H | (rw [hy207]; exact H) | exact H
            have Ny207 := Aside0.mk hy207
            clear hy207
            replace H := Option.bind_eq_some_iff.mp H
            obtain ⟨t210, A90, H⟩ := H
            replace H : (if t210 = true then ((turnstilelaw01_SameNumbers.f k t198 (([0] : List Int))).bind fun t214 => (some t214)) else (some false)) = some r := H
            have A9 := Aside0.mk A90
            clear A90
            by_cases c10 : t210 = true
            · subst c10
              have H1 : ((turnstilelaw01_SameNumbers.f k t198 (([0] : List Int))).bind fun t214 => (some t214)) = some r := by rw [if_pos rfl] at H; exact H
              clear H
              have H := H1
              clear H1
              obtain ⟨y211, hy211⟩ : ∃ y_ : List Int, y_ = (([0] : List Int)) := ⟨_, rfl⟩
              replace H : ((turnstilelaw01_SameNumbers.f k t198 y211).bind fun t214 => (some t214)) = some r := by first | (rw [hy211]; with_reducible exact H) | (have H2_ := (Option.bind_some _ _).symm.trans H; rw [hy211]; with_reducible exact H2_) | (have H2_ := (Option.bind_some _ _).symm.trans H; with_reducible exact H2_) | with_reducible exact H | (rw [hy211]; exact H) | exact H
              have Ny211 := Aside0.mk hy211
              clear hy211
              replace H := Option.bind_eq_some_iff.mp H
              obtain ⟨t214, A110, H⟩ := H
              replace H : (some t214) = some r := H
              have A11 := Aside0.mk A110
              clear A110
              obtain rfl := Option.some.inj H
              go_enter Try.func16, Try.ntmps16
              go_wp2_with (first | ((with_reducible refine gate_dst (N := 8) rfl ?_); (try (refine gate_guard (by rfl) ?_; dsimp only)); refine Kd.R_lit Kd.bool _ 4 ?hg (N := 8) ?hd (xs := ([false, false] : List Bool)) (inner := [.bool false, .bool false]) (ok := fun _ => True) (okp := fun _ => True) ?hr ?hp (fun _ hk => hk) trivial (Below.refl _ _) (Nat.le_refl _) (by simp) ?_; (case hd => rfl); (case hg => rfl); (case hr => first | (go_simp; done) | (go_simp; rfl)); (case hp => exact (Reps.one (show Kd.M Kd.bool _ _ _ false [.bool false] from rfl) (Reps.one (show Kd.M Kd.bool _ _ _ false [.bool false] from rfl) (Reps.none _ _)))); intro v185 w12 ho13 hb hg_ hnew_; clear hg_ hnew_; (first | rw [← Ny184.out] at ho13 | (simp only [Int.reduceToNat] at ho13; rw [← Ny184.out] at ho13)); have n0_ := Aside0.mk (Kd.R_lower ho13 (below_size (by repeat (first | (with_reducible first | exact HB.out | apply below_alloc | apply pw_below_drewN | apply below_drew1) | exact HB.out)))); have n1_ := Aside0.mk (below_step (by repeat (first | (with_reducible first | exact HB.out | apply below_alloc | apply pw_below_drewN | apply below_drew1) | exact HB.out)) hb); clear HB; have HO186 := n0_; have HB := n1_; clear n0_ n1_; clear hb ho13) | ((with_reducible refine gate_dst (N := 13) rfl ?_); (try (refine gate_guard (by rfl) ?_; dsimp only)); refine Kd.R_lit k46 _ 46 ?hg (N := 13) ?hd (xs := ([(⟨13, 0, 0, 0, 0, 0⟩ : S46), (⟨3, 1, 0, 0, 1, 0⟩ : S46), (⟨14, 0, 0, 0, 0, 0⟩ : S46), (⟨12, 0, 0, 0, 0, 0⟩ : S46)] : List (S46))) (inner := [.int .u8 13, .int .u8 0, .int .i64 0, .int .i64 0, .int .i64 0, .int .i64 0, .int .u8 3, .int .u8 1, .int .i64 0, .int .i64 0, .int .i64 1, .int .i64 0, .int .u8 14, .int .u8 0, .int .i64 0, .int .i64 0, .int .i64 0, .int .i64 0, .int .u8 12, .int .u8 0, .int .i64 0, .int .i64 0, .int .i64 0, .int .i64 0]) (ok := fun _ => True) (okp := fun _ => True) ?hr ?hp (fun _ hk => hk) trivial (Below.refl _ _) (Nat.le_refl _) (by simp) ?_; (case hd => rfl); (case hg => rfl); (case hr => first | (go_simp; done) | (go_simp; rfl)); (case hp => exact (Reps.c6 (show Kd.M k46 _ _ _ (⟨13, 0, 0, 0, 0, 0⟩ : S46) [.int .u8 13, .int .u8 0, .int .i64 0, .int .i64 0, .int .i64 0, .int .i64 0] from (k46_mkM _ _ _ (⟨13, 0, 0, 0, 0, 0⟩ : S46) )) (Reps.c6 (show Kd.M k46 _ _ _ (⟨3, 1, 0, 0, 1, 0⟩ : S46) [.int .u8 3, .int .u8 1, .int .i64 0, .int .i64 0, .int .i64 1, .int .i64 0] from (k46_mkM _ _ _ (⟨3, 1, 0, 0, 1, 0⟩ : S46) )) (Reps.c6 (show Kd.M k46 _ _ _ (⟨14, 0, 0, 0, 0, 0⟩ : S46) [.int .u8 14, .int .u8 0, .int .i64 0, .int .i64 0, .int .i64 0, .int .i64 0] from (k46_mkM _ _ _ (⟨14, 0, 0, 0, 0, 0⟩ : S46) )) (Reps.c6 (show Kd.M k46 _ _ _ (⟨12, 0, 0, 0, 0, 0⟩ : S46) [.int .u8 12, .int .u8 0, .int .i64 0, .int .i64 0, .int .i64 0, .int .i64 0] from (k46_mkM _ _ _ (⟨12, 0, 0, 0, 0, 0⟩ : S46) )) (Reps.none _ _)))))); intro v188 w14 ho15 hb hg_ hnew_; clear hg_ hnew_; (first | rw [← Ny187.out] at ho15 | (simp only [Int.reduceToNat] at ho15; rw [← Ny187.out] at ho15)); have n0_ := Aside0.mk (Kd.R_below (by (with_reducible repeat (first | apply Kd.R_alloc | apply Kd.R_drewN | apply Kd.R_drew)); exact HO186.out) hb); have n1_ := Aside0.mk (Kd.R_lower ho15 (below_size (by repeat (first | (with_reducible first | exact HB.out | apply below_alloc | apply pw_below_drewN | apply below_drew1) | exact HB.out)))); have n2_ := Aside0.mk (below_step (by repeat (first | (with_reducible first | exact HB.out | apply below_alloc | apply pw_below_drewN | apply below_drew1) | exact HB.out)) hb); clear HO186; clear HB; have HO186 := n0_; have HO189 := n1_; have HB := n2_; clear n0_ n1_ n2_; clear hb ho15; obtain ⟨Ao16, co16, eo16⟩ := Kd.R_slice HO189.out; subst eo16) | ((with_reducible refine gate_dst (N := 15) rfl ?_); (try (refine gate_guard (by rfl) ?_; dsimp only)); refine Kd.N_lit k36 _ 36 ?hg (N' := 15) ?hd (xs := ([(⟨y187, 3, 0, 0, 0⟩ : S36)] : List (S36))) (inner := [.slice Ao16 y187.length co16, .int .u8 3, .int .i64 0, .int .i64 0, .int .i64 0]) (ok := (fun k_ => some k_ ≠ (v185 : Value).ownBlock)) (okp := (fun k_ => some k_ ≠ (v185 : Value).ownBlock)) ?hr ?hp (fun _ hk => hk) ((show ∀ k_, w14.heap.size ≤ k_ → (fun k_ => some k_ ≠ (v185 : Value).ownBlock) k_ from fun k_ hk => Kd.fresh' (Kd.R_lt (by (with_reducible repeat (first | apply Kd.R_alloc | apply Kd.R_drewN | apply Kd.R_drew)); exact HO186.out)) k_ hk) _ (Nat.le_refl _)) (Below.refl _ _) (Nat.le_refl _) (by simp) ?_; (case hd => rfl); (case hg => rfl); (case hr => first | (go_simp; done) | (go_simp; rfl)); (case hp => exact (Reps.c5 (show Kd.FK k36 _ _ (⟨y187, 3, 0, 0, 0⟩ : S36) [.slice Ao16 y187.length co16, .int .u8 3, .int .i64 0, .int .i64 0, .int .i64 0] from (k36_mkF _ _ (⟨y187, 3, 0, 0, 0⟩ : S36) (Kd.R_reads' (Kd.R_mono (ok' := (fun k_ => some k_ ≠ (v185 : Value).ownBlock)) (Kd.R_apart' (HO189.out) (Kd.R_typed HO186.out) (by decide)) (fun k_ hk => hk.2))).2.1 (Kd.R_F (Kd.R_mono (ok' := (fun k_ => some k_ ≠ (v185 : Value).ownBlock)) (Kd.R_apart' (HO189.out) (Kd.R_typed HO186.out) (by decide)) (fun k_ hk => hk.2))))) (Reps.none _ _))); intro v191 w17 ho18 hb hg_ hnew_; clear hg_ hnew_; (first | rw [← Ny190.out] at ho18 | (simp only [Int.reduceToNat] at ho18; rw [← Ny190.out] at ho18)); have n0_ := Aside0.mk (Kd.R_below (by (with_reducible repeat (first | apply Kd.R_alloc | apply Kd.R_drewN | apply Kd.R_drew)); exact HO186.out) hb); have n1_ := Aside0.mk (Kd.N_lower ho18 (below_size (by repeat (first | (with_reducible first | exact HB.out | apply below_alloc | apply pw_below_drewN | apply below_drew1) | exact HB.out)))); have n2_ := Aside0.mk (below_step (by repeat (first | (with_reducible first | exact HB.out | apply below_alloc | apply pw_below_drewN | apply below_drew1) | exact HB.out)) hb); clear HO186; clear HB; clear HO189; have HO186 := n0_; have HO192 := n1_; have HB := n2_; clear n0_ n1_ n2_; clear hb ho18; obtain ⟨Ao19, co19, eo19⟩ := Kd.N_slice HO192.out; subst eo19; obtain ⟨Ao20, co20, eo20⟩ := Kd.R_slice HO186.out; subst eo20) | ((with_reducible refine gate_dst (N := 1) rfl ?_); (try (refine gate_guard (by rfl) ?_; dsimp only)); refine box_event ?hg (N := 1) ?hd (cs := #[.slice none 0 0, .int .i64 0, .slice none 0 0]) (t := 25) ?hr ?_; (case hd => rfl); (case hg => rfl); (case hr => first | (go_simp; done) | (go_simp; rfl)); intro gb193 hg w21 hbox hb; have n0_ := Aside0.mk (Kd.R_below (by (with_reducible repeat (first | apply Kd.R_alloc | apply Kd.R_drewN | apply Kd.R_drew)); exact HO186.out) hb); have n1_ := Aside0.mk (Kd.N_below (Kd.N_elderB (by (with_reducible repeat (first | apply Kd.N_alloc | apply Kd.N_drewN | apply Kd.N_drew)); exact HO192.out) gb193 (Nat.le_of_eq hg.symm)) hb); have n2_ := Aside0.mk (below_step (by repeat (first | (with_reducible first | exact HB.out | apply below_alloc | apply pw_below_drewN | apply below_drew1) | exact HB.out)) hb); have n3_ := Aside0.mk (hbox); have n4_ := Aside0.mk ((by rw [hg]; exact (below_size (by repeat (first | (with_reducible first | exact HB.out | apply below_alloc | apply pw_below_drewN | apply below_drew1) | exact HB.out))) : w.heap.size ≤ gb193)); have n5_ := Aside0.mk ((by rw [hg]; exact (below_size (by repeat (first | (with_reducible first | exact HB.out | apply below_alloc | apply pw_below_drewN | apply below_drew1) | exact HB.out))) : w.heap.size ≤ gb193)); clear HO186; clear HO192; clear HB; have HO186 := n0_; have HO192 := n1_; have HB := n2_; have BK193 := n3_; have GW193 := n4_; have GE193 := n5_; clear n0_ n1_ n2_ n3_ n4_ n5_; clear hb hbox hg; have hcz22_0 : w21.cell? ⟨gb193, 0, none⟩ = some (.slice none 0 0) := (blk_cell BK193.out 0).trans rfl; have hcz22_1 : w21.cell? ⟨gb193, 1, none⟩ = some (.int .i64 0) := (blk_cell BK193.out 1).trans rfl; have hcz22_2 : w21.cell? ⟨gb193, 2, none⟩ = some (.slice none 0 0) := (blk_cell BK193.out 2).trans rfl; have hfz22_0 := blk_frozen BK193.out 0; have hfz22_1 := blk_frozen BK193.out 1; have hfz22_2 := blk_frozen BK193.out 2) | ((with_reducible refine gate_callee (f := 15) rfl ?_); refine goesL_ (some 19) rfl rfl Try.func15 (by kernel_rfl) rfl #[.agg #[.slice Ao20 y184.length co20, .int .i64 0, .slice Ao19 y190.length co19]] rfl (by (try simp only [List.map_toArray, List.map_cons, List.map_nil]); first | done | rfl | (simp only [List.length_drop, List.length_take]; rfl)) ?_; (with_reducible refine (live_In.calls _ _ y184 0 _ _ y190 t194 t197 _ ?side1 ?side2 ?side3 ?side4 A1.out).mono ?_); (case side1 => refine (Kd.R_reads' (e := 4) (base := w.heap.size) (ok := fun k_ => True) (n := y184.length) (c := co20) ?_).2.2; exact (by (with_reducible repeat (first | apply Kd.R_alloc | apply Kd.R_drewN | apply Kd.R_drew)); exact (Kd.R_mono (Kd.R_far (p := ⟨gb193, 2, none⟩) (Kd.R_far (p := ⟨gb193, 1, none⟩) (Kd.R_far (p := ⟨gb193, 0, none⟩) (Kd.R_types HO186.out BK193.out (by decide)) (fun _ hk => hk.2) (.slice Ao20 y184.length co20)) (fun _ hk => hk.2) (.int .i64 0)) (fun _ hk => hk.2) (.slice Ao19 y190.length co19)) (fun _ h_ => h_.1)))); (case side2 => exact (Kd.R_reads' HO186.out).2.1); (case side3 => refine (Kd.N_reads' (e := 36) (base := w.heap.size) (ok := fun k_ => (some k_ ≠ (.slice Ao20 y184.length co20 : Value).ownBlock ∧ k_ ≠ gb193)) (n := y190.length) (c := co19) ?_).2.2; exact (by (with_reducible repeat (first | apply Kd.N_alloc | apply Kd.N_drewN | apply Kd.N_drew)); exact (Kd.N_mono (Kd.N_far (p := ⟨gb193, 2, none⟩) (Kd.N_far (p := ⟨gb193, 1, none⟩) (Kd.N_far (p := ⟨gb193, 0, none⟩) (Kd.N_mono HO192.out (fun k_ hk => (⟨hk, hk.2⟩ : _ ∧ k_ ≠ gb193))) (fun _ hk => hk.2) (.slice Ao20 y184.length co20)) (fun _ hk => hk.2) (.int .i64 0)) (fun _ hk => hk.2) (.slice Ao19 y190.length co19)) (fun _ h_ => h_.1)))); (case side4 => exact (Kd.N_reads' HO192.out).2.1); rintro e w23 ⟨v195, rfl, ho0, hb⟩; refine ⟨_, rfl, ?_⟩; have n0_ := Aside0.mk (Kd.R_below (by (with_reducible repeat (first | apply Kd.R_alloc | apply Kd.R_drewN | apply Kd.R_drew)); exact (Kd.R_mono (Kd.R_far (p := ⟨gb193, 2, none⟩) (Kd.R_far (p := ⟨gb193, 1, none⟩) (Kd.R_far (p := ⟨gb193, 0, none⟩) (Kd.R_types HO186.out BK193.out (by decide)) (fun _ hk => hk.2) (.slice Ao20 y184.length co20)) (fun _ hk => hk.2) (.int .i64 0)) (fun _ hk => hk.2) (.slice Ao19 y190.length co19)) (fun _ h_ => h_.1))) hb); have n1_ := Aside0.mk (Kd.N_elder' (by (with_reducible repeat (first | apply Kd.N_alloc | apply Kd.N_drewN | apply Kd.N_drew)); exact (Kd.N_mono (Kd.N_far (p := ⟨gb193, 2, none⟩) (Kd.N_far (p := ⟨gb193, 1, none⟩) (Kd.N_far (p := ⟨gb193, 0, none⟩) (Kd.N_mono HO192.out (fun k_ hk => (⟨hk, hk.2⟩ : _ ∧ k_ ≠ gb193))) (fun _ hk => hk.2) (.slice Ao20 y184.length co20)) (fun _ hk => hk.2) (.int .i64 0)) (fun _ hk => hk.2) (.slice Ao19 y190.length co19)) (fun _ h_ => h_.1))) (Kd.S_base ho0) hb); have n2_ := Aside0.mk (Kd.N_lower (Kd.N_mono (ok' := fun k_ => some k_ ≠ (.slice Ao20 y184.length co20 : Value).ownBlock ∧ some k_ ≠ (.slice Ao19 y190.length co19 : Value).ownBlock ∧ k_ ≠ gb193) (Kd.S_N (Kd.S_bound ho0)) (fun k_ hk_ => ⟨(Kd.fresh' (Kd.R_lt (by (with_reducible repeat (first | apply Kd.R_alloc | apply Kd.R_drewN | apply Kd.R_drew)); exact (Kd.R_mono (Kd.R_far (p := ⟨gb193, 2, none⟩) (Kd.R_far (p := ⟨gb193, 1, none⟩) (Kd.R_far (p := ⟨gb193, 0, none⟩) (Kd.R_types HO186.out BK193.out (by decide)) (fun _ hk => hk.2) (.slice Ao20 y184.length co20)) (fun _ hk => hk.2) (.int .i64 0)) (fun _ hk => hk.2) (.slice Ao19 y190.length co19)) (fun _ h_ => h_.1)))) k_ hk_.2.1), (Kd.fresh' (Kd.N_lt (by (with_reducible repeat (first | apply Kd.N_alloc | apply Kd.N_drewN | apply Kd.N_drew)); exact (Kd.N_mono (Kd.N_far (p := ⟨gb193, 2, none⟩) (Kd.N_far (p := ⟨gb193, 1, none⟩) (Kd.N_far (p := ⟨gb193, 0, none⟩) (Kd.N_mono HO192.out (fun k_ hk => (⟨hk, hk.2⟩ : _ ∧ k_ ≠ gb193))) (fun _ hk => hk.2) (.slice Ao20 y184.length co20)) (fun _ hk => hk.2) (.int .i64 0)) (fun _ hk => hk.2) (.slice Ao19 y190.length co19)) (fun _ h_ => h_.1)))) k_ hk_.2.1), (Kd.freshB (g := gb193) (o := .cells #[.slice Ao20 y184.length co20, .int .i64 0, .slice Ao19 y190.length co19] 25 (0, 0)) (by (with_reducible repeat (first | refine blk_drewN ?_ _ | refine blk_drew ?_ | refine blk_alloc ?_ _)); refine blk_put (cs := #[.slice Ao20 y184.length co20, .int .i64 0, .slice none 0 0]) ?_ 2 _ rfl; (with_reducible repeat (first | refine blk_drewN ?_ _ | refine blk_drew ?_ | refine blk_alloc ?_ _)); refine blk_put (cs := #[.slice Ao20 y184.length co20, .int .i64 0, .slice none 0 0]) ?_ 1 _ rfl; (with_reducible repeat (first | refine blk_drewN ?_ _ | refine blk_drew ?_ | refine blk_alloc ?_ _)); refine blk_put (cs := #[.slice none 0 0, .int .i64 0, .slice none 0 0]) ?_ 0 _ rfl; (with_reducible repeat (first | refine blk_drewN ?_ _ | refine blk_drew ?_ | refine blk_alloc ?_ _)); exact BK193.out) k_ hk_.2.1)⟩)) (below_size (by repeat (first | (with_reducible first | exact HB.out | apply below_alloc | apply pw_below_drewN | apply below_drew1 | refine below_set ?_ GE193.out) | exact HB.out)))); have n3_ := Aside0.mk (blk_below (g := gb193) (o := .cells #[.slice Ao20 y184.length co20, .int .i64 0, .slice Ao19 y190.length co19] 25 (0, 0)) (by (with_reducible repeat (first | refine blk_drewN ?_ _ | refine blk_drew ?_ | refine blk_alloc ?_ _)); refine blk_put (cs := #[.slice Ao20 y184.length co20, .int .i64 0, .slice none 0 0]) ?_ 2 _ rfl; (with_reducible repeat (first | refine blk_drewN ?_ _ | refine blk_drew ?_ | refine blk_alloc ?_ _)); refine blk_put (cs := #[.slice Ao20 y184.length co20, .int .i64 0, .slice none 0 0]) ?_ 1 _ rfl; (with_reducible repeat (first | refine blk_drewN ?_ _ | refine blk_drew ?_ | refine blk_alloc ?_ _)); refine blk_put (cs := #[.slice none 0 0, .int .i64 0, .slice none 0 0]) ?_ 0 _ rfl; (with_reducible repeat (first | refine blk_drewN ?_ _ | refine blk_drew ?_ | refine blk_alloc ?_ _)); exact BK193.out) hb); have n4_ := Aside0.mk (below_step (by repeat (first | (with_reducible first | exact HB.out | apply below_alloc | apply pw_below_drewN | apply below_drew1 | refine below_set ?_ GE193.out) | exact HB.out)) hb); clear HO186; clear HO192; clear BK193; clear HB; have HO186 := n0_; have HO192 := n1_; have HO196 := n2_; have BK193 := n3_; have HB := n4_; clear n0_ n1_ n2_ n3_ n4_; (try clear hb); (try clear hb2); (try clear hk); (try clear hi); (try clear ho0); have hcz24_0 : w23.cell? ⟨gb193, 0, none⟩ = some (.slice Ao20 y184.length co20) := (blk_cell BK193.out 0).trans rfl; have hcz24_1 : w23.cell? ⟨gb193, 1, none⟩ = some (.int .i64 0) := (blk_cell BK193.out 1).trans rfl; have hcz24_2 : w23.cell? ⟨gb193, 2, none⟩ = some (.slice Ao19 y190.length co19) := (blk_cell BK193.out 2).trans rfl; have hfz24_0 := blk_frozen BK193.out 0; have hfz24_1 := blk_frozen BK193.out 1; have hfz24_2 := blk_frozen BK193.out 2) | ((with_reducible refine gate_callee (f := 22) rfl ?_); refine goesL_ (some 25) rfl rfl Try.func22 (by kernel_rfl) rfl #[.agg #[.slice Ao20 y184.length co20, .int .i64 0, .slice Ao19 y190.length co19], .agg #[.int .i64 0, .int .i64 0]] rfl (by (try simp only [List.map_toArray, List.map_cons, List.map_nil]); first | done | rfl | (simp only [List.length_drop, List.length_take]; rfl)) ?_; (with_reducible refine (live_Saved.calls _ _ y184 0 _ _ y190 0 0 t198 t201 _ ?side1 ?side2 ?side3 ?side4 A2.out).mono ?_); (case side1 => repeat (first | exact (Kd.R_reads' HO186.out).2.2 | (with_reducible refine Kd.C_alloc ?_ _) | (with_reducible refine Kd.C_drewN ?_ _) | (with_reducible refine Kd.C_drew ?_))); (case side2 => exact (Kd.R_reads' HO186.out).2.1); (case side3 => repeat (first | exact (Kd.N_reads' HO192.out).2.2 | (with_reducible refine Kd.C_alloc ?_ _) | (with_reducible refine Kd.C_drewN ?_ _) | (with_reducible refine Kd.C_drew ?_))); (case side4 => exact (Kd.N_reads' HO192.out).2.1); rintro e w25 ⟨v199, rfl, ho0, hb⟩; refine ⟨_, rfl, ?_⟩; have n0_ := Aside0.mk (Kd.R_below (by (with_reducible repeat (first | apply Kd.R_alloc | apply Kd.R_drewN | apply Kd.R_drew)); exact HO186.out) hb); have n1_ := Aside0.mk (Kd.N_elder' (by (with_reducible repeat (first | apply Kd.N_alloc | apply Kd.N_drewN | apply Kd.N_drew)); exact HO192.out) (Kd.R_base ho0) hb); have n2_ := Aside0.mk (Kd.N_elder' (by (with_reducible repeat (first | apply Kd.N_alloc | apply Kd.N_drewN | apply Kd.N_drew)); exact HO196.out) (Kd.R_base ho0) hb); have n3_ := Aside0.mk (Kd.R_lower ho0 (below_size (by repeat (first | (with_reducible first | exact HB.out | apply below_alloc | apply pw_below_drewN | apply below_drew1 | refine below_set ?_ GE193.out) | exact HB.out)))); have n4_ := Aside0.mk (blk_below (g := gb193) (o := .cells #[.slice Ao20 y184.length co20, .int .i64 0, .slice Ao19 y190.length co19] 25 (0, 0)) (by (with_reducible repeat (first | refine blk_drewN ?_ _ | refine blk_drew ?_ | refine blk_alloc ?_ _)); exact BK193.out) hb); have n5_ := Aside0.mk (below_step (by repeat (first | (with_reducible first | exact HB.out | apply below_alloc | apply pw_below_drewN | apply below_drew1 | refine below_set ?_ GE193.out) | exact HB.out)) hb); clear HO186; clear HO192; clear HO196; clear BK193; clear HB; have HO186 := n0_; have HO192 := n1_; have HO196 := n2_; have HO200 := n3_; have BK193 := n4_; have HB := n5_; clear n0_ n1_ n2_ n3_ n4_ n5_; (try clear hb); (try clear hb2); (try clear hk); (try clear hi); (try clear ho0); have hcz26_0 : w25.cell? ⟨gb193, 0, none⟩ = some (.slice Ao20 y184.length co20) := (blk_cell BK193.out 0).trans rfl; have hcz26_1 : w25.cell? ⟨gb193, 1, none⟩ = some (.int .i64 0) := (blk_cell BK193.out 1).trans rfl; have hcz26_2 : w25.cell? ⟨gb193, 2, none⟩ = some (.slice Ao19 y190.length co19) := (blk_cell BK193.out 2).trans rfl; have hfz26_0 := blk_frozen BK193.out 0; have hfz26_1 := blk_frozen BK193.out 1; have hfz26_2 := blk_frozen BK193.out 2) | ((with_reducible refine gate_callee (f := 17) rfl ?_); refine goesL_ (some 31) rfl rfl Try.func17 (by kernel_rfl) rfl #[.agg #[.slice Ao20 y184.length co20, .int .i64 0, .slice Ao19 y190.length co19], .agg #[.int .i64 1, .int .i64 0]] rfl (by (try simp only [List.map_toArray, List.map_cons, List.map_nil]); first | done | rfl | (simp only [List.length_drop, List.length_take]; rfl)) ?_; (with_reducible refine (live_At.calls _ _ y184 0 _ _ y190 1 0 t202 t205 _ ?side1 ?side2 ?side3 ?side4 A3.out).mono ?_); (case side1 => repeat (first | exact (Kd.R_reads' HO186.out).2.2 | (with_reducible refine Kd.C_alloc ?_ _) | (with_reducible refine Kd.C_drewN ?_ _) | (with_reducible refine Kd.C_drew ?_))); (case side2 => exact (Kd.R_reads' HO186.out).2.1); (case side3 => repeat (first | exact (Kd.N_reads' HO192.out).2.2 | (with_reducible refine Kd.C_alloc ?_ _) | (with_reducible refine Kd.C_drewN ?_ _) | (with_reducible refine Kd.C_drew ?_))); (case side4 => exact (Kd.N_reads' HO192.out).2.1); rintro e w27 ⟨v203, rfl, ho0, hb⟩; refine ⟨_, rfl, ?_⟩; have n0_ := Aside0.mk (Kd.R_below (by (with_reducible repeat (first | apply Kd.R_alloc | apply Kd.R_drewN | apply Kd.R_drew)); exact HO186.out) hb); have n1_ := Aside0.mk (Kd.N_elder' (by (with_reducible repeat (first | apply Kd.N_alloc | apply Kd.N_drewN | apply Kd.N_drew)); exact HO192.out) (Kd.R_base ho0) hb); have n2_ := Aside0.mk (Kd.N_elder' (by (with_reducible repeat (first | apply Kd.N_alloc | apply Kd.N_drewN | apply Kd.N_drew)); exact HO196.out) (Kd.R_base ho0) hb); have n3_ := Aside0.mk (Kd.R_elder' (by (with_reducible repeat (first | apply Kd.R_alloc | apply Kd.R_drewN | apply Kd.R_drew)); exact HO200.out) (Kd.R_base ho0) hb); have n4_ := Aside0.mk (Kd.R_lower (Kd.R_new' ho0 (Kd.R_lt (by (with_reducible repeat (first | apply Kd.R_alloc | apply Kd.R_drewN | apply Kd.R_drew)); exact HO200.out))) (below_size (by repeat (first | (with_reducible first | exact HB.out | apply below_alloc | apply pw_below_drewN | apply below_drew1 | refine below_set ?_ GE193.out) | exact HB.out)))); have n5_ := Aside0.mk (blk_below (g := gb193) (o := .cells #[.slice Ao20 y184.length co20, .int .i64 0, .slice Ao19 y190.length co19] 25 (0, 0)) (by (with_reducible repeat (first | refine blk_drewN ?_ _ | refine blk_drew ?_ | refine blk_alloc ?_ _)); exact BK193.out) hb); have n6_ := Aside0.mk (below_step (by repeat (first | (with_reducible first | exact HB.out | apply below_alloc | apply pw_below_drewN | apply below_drew1 | refine below_set ?_ GE193.out) | exact HB.out)) hb); clear HO186; clear HO192; clear HO196; clear HO200; clear BK193; clear HB; have HO186 := n0_; have HO192 := n1_; have HO196 := n2_; have HO200 := n3_; have HO204 := n4_; have BK193 := n5_; have HB := n6_; clear n0_ n1_ n2_ n3_ n4_ n5_ n6_; (try clear hb); (try clear hb2); (try clear hk); (try clear hi); (try clear ho0); obtain ⟨Ao28, co28, eo28⟩ := Kd.N_slice HO196.out; subst eo28; have p206 : 0 ≤ (0 : Int) := (by omega); have q206 : 0 < (t194.length : Int) := of_decide_eq_true (by first | (with_reducible assumption) | assumption); obtain ⟨ad206, A206_0, c206_0, e206, hx206_0, hl206_0, hi206_0⟩ := at_L13 (Kd.N_reads' HO196.out).2.2 0 p206 q206; cases e206; obtain ⟨ce206, hce206, hMe206, hcc206⟩ := Kd.N_get HO196.out [] 0 p206 (by first | exact q206 | exact of_decide_eq_true (by first | (with_reducible assumption) | assumption) | (have e_ := (Kd.N_reads' HO196.out).1; omega)); obtain ⟨ua206_0, uc206_0, rfl, ul206_0, ge206_0⟩ := Kd.FK_slice_open hMe206; have hv206_0 := hcc206 0 _ rfl; rw [Nat.add_zero, show ((Kd.slice 3 (Kd.int .i64))).sz = 1 from rfl, Nat.mul_one] at hv206_0; replace hv206_0 := Option.some.inj (hv206_0.symm.trans hx206_0); injection hv206_0 with hva_ hvn_ hvc_; rw [hva_] at ge206_0; rw [hvc_] at ul206_0; have HL206_0 := Aside0.mk (show Kd.V (Kd.int .i64) 3 _ w.heap.size _ _ (rd_L13 t194 0) from Kd.V_mk ul206_0 ge206_0); clear hva_ hvn_ hvc_ ge206_0 ul206_0; clear hcc206 hce206; have qi206 : (0 < t194.length) = True := eq_true (by omega); (try rw [show ((0 : Int)).toNat = 0 from rfl] at hx206_0); (try rw [Addr.add_zero'] at hx206_0); have HR206_0 := Aside0.mk hi206_0; have HC206_0 := Aside0.mk hl206_0; clear hi206_0 hl206_0; replace p206 := eq_true p206; replace q206 := eq_true q206) | ((with_reducible refine gate_dst (N := 53) rfl ?_); (try (refine gate_guard (by rfl) ?_; dsimp only)); refine Kd.R_lit (Kd.int .i64) _ 3 ?hg (N := 53) ?hd (xs := ([0, 1] : List Int)) (inner := [.int .i64 0, .int .i64 1]) (ok := fun _ => True) (okp := fun _ => True) ?hr ?hp (fun _ hk => hk) trivial (Below.refl _ _) (Nat.le_refl _) (by simp) ?_; (case hd => rfl); (case hg => rfl); (case hr => first | (go_simp; done) | (go_simp; rfl)); (case hp => exact (Reps.one (show Kd.M (Kd.int .i64) _ _ _ 0 [.int .i64 0] from rfl) (Reps.one (show Kd.M (Kd.int .i64) _ _ _ 1 [.int .i64 1] from rfl) (Reps.none _ _)))); intro v208 w29 ho30 hb hg_ hnew_; clear hg_ hnew_; (first | rw [← Ny207.out] at ho30 | (simp only [Int.reduceToNat] at ho30; rw [← Ny207.out] at ho30)); have n0_ := Aside0.mk (Kd.R_below (by (with_reducible repeat (first | apply Kd.R_alloc | apply Kd.R_drewN | apply Kd.R_drew)); exact HO186.out) hb); have n1_ := Aside0.mk (Kd.N_elder' (by (with_reducible repeat (first | apply Kd.N_alloc | apply Kd.N_drewN | apply Kd.N_drew)); exact HO192.out) (Kd.R_base ho30) hb); have n2_ := Aside0.mk (Kd.N_elder' (by (with_reducible repeat (first | apply Kd.N_alloc | apply Kd.N_drewN | apply Kd.N_drew)); exact HO196.out) (Kd.R_base ho30) hb); have n3_ := Aside0.mk (Kd.R_elder' (by (with_reducible repeat (first | apply Kd.R_alloc | apply Kd.R_drewN | apply Kd.R_drew)); exact HO200.out) (Kd.R_base ho30) hb); have n4_ := Aside0.mk (Kd.R_elder' (by (with_reducible repeat (first | apply Kd.R_alloc | apply Kd.R_drewN | apply Kd.R_drew)); exact HO204.out) (Kd.R_base ho30) hb); have n5_ := Aside0.mk (Kd.V_elder' (by (with_reducible repeat (first | apply Kd.V_alloc | apply Kd.V_drewN | apply Kd.V_drew)); exact HL206_0.out) (Kd.R_base ho30) hb); have n6_ := Aside0.mk (Kd.R_lower (Kd.R_new' (Kd.R_new' ho30 (Kd.R_lt (by (with_reducible repeat (first | apply Kd.R_alloc | apply Kd.R_drewN | apply Kd.R_drew)); exact HO200.out))) (Kd.R_lt (by (with_reducible repeat (first | apply Kd.R_alloc | apply Kd.R_drewN | apply Kd.R_drew)); exact HO204.out))) (below_size (by repeat (first | (with_reducible first | exact HB.out | apply below_alloc | apply pw_below_drewN | apply below_drew1 | refine below_set ?_ GE193.out) | exact HB.out)))); have n7_ := Aside0.mk (blk_below (g := gb193) (o := .cells #[.slice Ao20 y184.length co20, .int .i64 0, .slice Ao19 y190.length co19] 25 (0, 0)) (by (with_reducible repeat (first | refine blk_drewN ?_ _ | refine blk_drew ?_ | refine blk_alloc ?_ _)); exact BK193.out) hb); have n8_ := Aside0.mk (Kd.C_below (by repeat (first | (with_reducible exact HR206_0.out) | (with_reducible refine Kd.C_alloc ?_ _) | (with_reducible refine Kd.C_drewN ?_ _) | (with_reducible refine Kd.C_drew ?_) | exact HR206_0.out)) hb); have n9_ := Aside0.mk (below_step (by repeat (first | (with_reducible first | exact HB.out | apply below_alloc | apply pw_below_drewN | apply below_drew1 | refine below_set ?_ GE193.out) | exact HB.out)) hb); clear HO186; clear HO192; clear HO196; clear HO200; clear HO204; clear HL206_0; clear BK193; clear HR206_0; clear HB; have HO186 := n0_; have HO192 := n1_; have HO196 := n2_; have HO200 := n3_; have HO204 := n4_; have HL206_0 := n5_; have HO209 := n6_; have BK193 := n7_; have HR206_0 := n8_; have HB := n9_; clear n0_ n1_ n2_ n3_ n4_ n5_ n6_ n7_ n8_ n9_; clear hb ho30; obtain ⟨Ao31, co31, eo31⟩ := Kd.R_slice HO209.out; subst eo31) | (go_at_call 21; (with_reducible refine (turnstilelaw01_SameNumbers.calls k _ _ (rd_L13 t194 0) _ _ y207 true _ ?side1 ?side2 ?side3 ?side4 A9.out).mono ?_); (case side1 => repeat (first | exact (by repeat (first | (with_reducible exact HR206_0.out) | (with_reducible refine Kd.C_alloc ?_ _) | (with_reducible refine Kd.C_drewN ?_ _) | (with_reducible refine Kd.C_drew ?_) | exact HR206_0.out)) | (with_reducible refine Kd.C_alloc ?_ _) | (with_reducible refine Kd.C_drewN ?_ _) | (with_reducible refine Kd.C_drew ?_))); (case side2 => exact HC206_0.out); (case side3 => repeat (first | exact (Kd.R_reads' HO209.out).2.2 | (with_reducible refine Kd.C_alloc ?_ _) | (with_reducible refine Kd.C_drewN ?_ _) | (with_reducible refine Kd.C_drew ?_))); (case side4 => exact (Kd.R_reads' HO209.out).2.1); rintro e w' ⟨rfl, ⟨nd, rfl⟩⟩) | ((with_reducible refine gate_dst (N := 58) rfl ?_); (try (refine gate_guard (by rfl) ?_; dsimp only)); refine Kd.R_lit (Kd.int .i64) _ 3 ?hg (N := 58) ?hd (xs := ([0] : List Int)) (inner := [.int .i64 0]) (ok := fun _ => True) (okp := fun _ => True) ?hr ?hp (fun _ hk => hk) trivial (Below.refl _ _) (Nat.le_refl _) (by simp) ?_; (case hd => rfl); (case hg => rfl); (case hr => first | (go_simp; done) | (go_simp; rfl)); (case hp => exact (Reps.one (show Kd.M (Kd.int .i64) _ _ _ 0 [.int .i64 0] from rfl) (Reps.none _ _))); intro v212 w32 ho33 hb hg_ hnew_; clear hg_ hnew_; (first | rw [← Ny211.out] at ho33 | (simp only [Int.reduceToNat] at ho33; rw [← Ny211.out] at ho33)); have n0_ := Aside0.mk (Kd.R_below (by (with_reducible repeat (first | apply Kd.R_alloc | apply Kd.R_drewN | apply Kd.R_drew)); exact HO186.out) hb); have n1_ := Aside0.mk (Kd.N_elder' (by (with_reducible repeat (first | apply Kd.N_alloc | apply Kd.N_drewN | apply Kd.N_drew)); exact HO192.out) (Kd.R_base ho33) hb); have n2_ := Aside0.mk (Kd.N_elder' (by (with_reducible repeat (first | apply Kd.N_alloc | apply Kd.N_drewN | apply Kd.N_drew)); exact HO196.out) (Kd.R_base ho33) hb); have n3_ := Aside0.mk (Kd.R_elder' (by (with_reducible repeat (first | apply Kd.R_alloc | apply Kd.R_drewN | apply Kd.R_drew)); exact HO200.out) (Kd.R_base ho33) hb); have n4_ := Aside0.mk (Kd.R_elder' (by (with_reducible repeat (first | apply Kd.R_alloc | apply Kd.R_drewN | apply Kd.R_drew)); exact HO204.out) (Kd.R_base ho33) hb); have n5_ := Aside0.mk (Kd.V_elder' (by (with_reducible repeat (first | apply Kd.V_alloc | apply Kd.V_drewN | apply Kd.V_drew)); exact HL206_0.out) (Kd.R_base ho33) hb); have n6_ := Aside0.mk (Kd.R_elder' (by (with_reducible repeat (first | apply Kd.R_alloc | apply Kd.R_drewN | apply Kd.R_drew)); exact HO209.out) (Kd.R_base ho33) hb); have n7_ := Aside0.mk (Kd.R_lower (Kd.R_new' (Kd.R_new' (Kd.R_new' ho33 (Kd.R_lt (by (with_reducible repeat (first | apply Kd.R_alloc | apply Kd.R_drewN | apply Kd.R_drew)); exact HO200.out))) (Kd.R_lt (by (with_reducible repeat (first | apply Kd.R_alloc | apply Kd.R_drewN | apply Kd.R_drew)); exact HO204.out))) (Kd.R_lt (by (with_reducible repeat (first | apply Kd.R_alloc | apply Kd.R_drewN | apply Kd.R_drew)); exact HO209.out))) (below_size (by repeat (first | (with_reducible first | exact HB.out | apply below_alloc | apply pw_below_drewN | apply below_drew1 | refine below_set ?_ GE193.out) | exact HB.out)))); have n8_ := Aside0.mk (blk_below (g := gb193) (o := .cells #[.slice Ao20 y184.length co20, .int .i64 0, .slice Ao19 y190.length co19] 25 (0, 0)) (by (with_reducible repeat (first | refine blk_drewN ?_ _ | refine blk_drew ?_ | refine blk_alloc ?_ _)); exact BK193.out) hb); have n9_ := Aside0.mk (Kd.C_below (by repeat (first | (with_reducible exact HR206_0.out) | (with_reducible refine Kd.C_alloc ?_ _) | (with_reducible refine Kd.C_drewN ?_ _) | (with_reducible refine Kd.C_drew ?_) | exact HR206_0.out)) hb); have n10_ := Aside0.mk (below_step (by repeat (first | (with_reducible first | exact HB.out | apply below_alloc | apply pw_below_drewN | apply below_drew1 | refine below_set ?_ GE193.out) | exact HB.out)) hb); clear HO186; clear HO192; clear HO196; clear HO200; clear HO204; clear HL206_0; clear HO209; clear BK193; clear HR206_0; clear HB; have HO186 := n0_; have HO192 := n1_; have HO196 := n2_; have HO200 := n3_; have HO204 := n4_; have HL206_0 := n5_; have HO209 := n6_; have HO213 := n7_; have BK193 := n8_; have HR206_0 := n9_; have HB := n10_; clear n0_ n1_ n2_ n3_ n4_ n5_ n6_ n7_ n8_ n9_ n10_; clear hb ho33; obtain ⟨Ao34, co34, eo34⟩ := Kd.R_slice HO200.out; subst eo34; obtain ⟨Ao35, co35, eo35⟩ := Kd.R_slice HO213.out; subst eo35) | (go_at_call 21; (with_reducible refine (turnstilelaw01_SameNumbers.calls k _ _ t198 _ _ y211 t214 _ ?side1 ?side2 ?side3 ?side4 A11.out).mono ?_); (case side1 => repeat (first | exact (Kd.R_reads' HO200.out).2.2 | (with_reducible refine Kd.C_alloc ?_ _) | (with_reducible refine Kd.C_drewN ?_ _) | (with_reducible refine Kd.C_drew ?_))); (case side2 => exact (Kd.R_reads' HO200.out).2.1); (case side3 => repeat (first | exact (Kd.R_reads' HO213.out).2.2 | (with_reducible refine Kd.C_alloc ?_ _) | (with_reducible refine Kd.C_drewN ?_ _) | (with_reducible refine Kd.C_drew ?_))); (case side4 => exact (Kd.R_reads' HO213.out).2.1); rintro e w' ⟨rfl, ⟨nd, rfl⟩⟩))
              go_ret
              exact ⟨by first | rfl | (simp [errW_none, errW_some] <;> rfl) | (simp [*, errW_none, errW_some] <;> rfl), by repeat (first | (with_reducible first | exact HB.out | apply below_alloc | apply pw_below_drewN | apply below_drew1 | refine below_set ?_ GE193.out) | exact HB.out)⟩
            · replace c10 := Bool.eq_false_iff.mpr c10
              subst c10
              have H1 : (some false) = some r := by rw [if_neg (show ¬ (false = true) by decide)] at H; exact H
              clear H
              have H := H1
              clear H1
              exact absurd ((Option.some.inj H).trans hyes.out) (by decide)
          · rw [if_neg c8] at H
            exact absurd H (by simp)
        · rw [if_neg c7] at H
          have c7b0 : ((t194.length : Int) == 1) = false := beq_eq_false_iff_ne.mpr c7
          have c7b1 : ((t194.length : Int) != 1) = true := bne_iff_ne.mpr c7
          exact absurd ((Option.some.inj H).trans hyes.out) (by decide)
      · rw [if_neg c6] at H
        have c6b0 : (t205 == 1) = false := beq_eq_false_iff_ne.mpr c6
        have c6b1 : (t205 != 1) = true := bne_iff_ne.mpr c6
        exact absurd ((Option.some.inj H).trans hyes.out) (by decide)
    · rw [if_neg c5] at H
      have c5b0 : (t201 == 0) = false := beq_eq_false_iff_ne.mpr c5
      have c5b1 : (t201 != 0) = true := bne_iff_ne.mpr c5
      exact absurd ((Option.some.inj H).trans hyes.out) (by decide)
  · rw [if_neg c4] at H
    have c4b0 : (t197 == 0) = false := beq_eq_false_iff_ne.mpr c4
    have c4b1 : (t197 != 0) = true := bne_iff_ne.mpr c4
    exact absurd ((Option.some.inj H).trans hyes.out) (by decide)
end Go.Proofs.Ytjmeignhhheckaa.Q
namespace Go.Proofs.Ytjmeignhhheckaa.Q
open Go.RowKit Go.Proofs.YtjmeignhhheckaaW.PrintWords Go.Proofs.YtjmeignhhheckaaW.PrintLast Go.Proofs.YtjmeignhhheckaaW.PrintMore
attribute [local go_sem] max2_int min2_int max_two min_two max_three min_three max_four min_four   -- for this text's walks alone
set_option linter.unusedVariables false
set_option linter.unusedSimpArgs false
def turnstilelaw01_counted.f (a0 : Int) : Option (Int) := if a0 < 0 then (some 262145) else (some (wrap64 (262144 - a0)))
set_option maxHeartbeats 8000000 in
set_option maxRecDepth 100000 in
theorem turnstilelaw01_counted.calls (a0 : Int) (r : Int) (w : World) (h : turnstilelaw01_counted.f a0 = some r) :
    Calls Try.prog 55 #[.int .i64 a0] w fun e w' => e = .returned (.int .i64 r) ∧ Drawn0 w w' := by
  have H : (if a0 < 0 then (some 262145) else (some (wrap64 (262144 - a0)))) = some r := h
  clear h
  by_cases c2 : a0 < 0
  · rw [if_pos c2] at H
    have c2b0 : decide (a0 < 0) = true := decide_eq_true c2
    clear c2
    obtain rfl := Option.some.inj H
    go_enter Try.func55, Try.ntmps55
    go_wp2
    go_ret
    exact ⟨by first | rfl | (simp; done) | (simp [*]; done), by repeat (first | exact Drawn0.refl _ | apply Drawn0.step)⟩
  · rw [if_neg c2] at H
    have c2b0 : decide (a0 < 0) = false := decide_eq_false c2
    clear c2
    obtain rfl := Option.some.inj H
    go_enter Try.func55, Try.ntmps55
    go_wp2
    go_ret
    exact ⟨by first | rfl | (simp; done) | (simp [*]; done), by repeat (first | exact Drawn0.refl _ | apply Drawn0.step)⟩
end Go.Proofs.Ytjmeignhhheckaa.Q
namespace Go.Proofs.Ytjmeignhhheckaa.Q
open Go.RowKit Go.Proofs.YtjmeignhhheckaaW.PrintWords Go.Proofs.YtjmeignhhheckaaW.PrintLast Go.Proofs.YtjmeignhhheckaaW.PrintMore
attribute [local go_sem] max2_int min2_int max_two min_two max_three min_three max_four min_four   -- for this text's walks alone
set_option linter.unusedVariables false
set_option linter.unusedSimpArgs false
def turnstilelaw01_GraphSize.l0 : Nat → Int → Int → List Bool → Int → List (S36) → Option (Int)
  | 0, _, _, _, _, _ => none
  | k + 1, x3, x4, x105000, x105001, x105002 => if x4 < (x105002.length : Int) then (if x3 ≥ 0 then (if 0 ≤ x4 then (turnstilelaw01_GraphSize.l0 k (wrap64 (x3 - (((rd_T36 x105002 x4).f0).length : Int))) (wrap64 (x4 + 1)) x105000 x105001 x105002) else (none)) else ((turnstilelaw01_counted.f x3).bind fun t106 => (some t106))) else ((turnstilelaw01_counted.f x3).bind fun t107 => (some t107))
def turnstilelaw01_GraphSize.f (k : Nat) (l0_0 : List Bool) (a0_1 : Int) (l0_2 : List (S36)) : Option (Int) := turnstilelaw01_GraphSize.l0 k (wrap64 ((wrap64 (262144 - (l0_0.length : Int))) - (l0_2.length : Int))) 0 l0_0 a0_1 l0_2
theorem turnstilelaw01_GraphSize.mono_l : ∀ k, (∀ y0 y1 y2 y3 y4, LeO (turnstilelaw01_GraphSize.l0 k y0 y1 y2 y3 y4) (turnstilelaw01_GraphSize.l0 (k + 1) y0 y1 y2 y3 y4))
  | 0 => fun _ _ _ _ _ r h => by simp [turnstilelaw01_GraphSize.l0] at h
  | k + 1 => by
    have ih0 := turnstilelaw01_GraphSize.mono_l k
    · intro y0 y1 y2 y3 y4
      unfold turnstilelaw01_GraphSize.l0
      repeat' first
      | (with_reducible exact ih0 _ _ _ _ _)
      | (with_reducible exact LeO.refl _)
      | (with_reducible exact LeO.none _)
      | (with_reducible refine LeO.ite ?_ ?_)
      | (with_reducible refine LeO.bind ?_ (fun _ => ?_))
      | exact ih0 _ _ _ _ _
      | exact LeO.none _
      | refine LeO.ite ?_ ?_
      | refine LeO.bind ?_ (fun _ => ?_)
theorem turnstilelaw01_GraphSize.mono : ∀ a0 a1 a2 k, LeO (turnstilelaw01_GraphSize.f k a0 a1 a2) (turnstilelaw01_GraphSize.f (k + 1) a0 a1 a2) := by
  intro a0 a1 a2 k
  have ih0 := turnstilelaw01_GraphSize.mono_l k
  unfold turnstilelaw01_GraphSize.f
  repeat' first
      | (with_reducible exact ih0 _ _ _ _ _)
      | (with_reducible exact LeO.refl _)
      | (with_reducible exact LeO.none _)
      | (with_reducible refine LeO.ite ?_ ?_)
      | (with_reducible refine LeO.bind ?_ (fun _ => ?_))
      | exact ih0 _ _ _ _ _
      | exact LeO.none _
      | refine LeO.ite ?_ ?_
      | refine LeO.bind ?_ (fun _ => ?_)
set_option maxHeartbeats 8000000 in
set_option maxRecDepth 100000 in
theorem turnstilelaw01_GraphSize.calls (k : Nat) (A0_0 : Option Addr) (c0_0 : Nat) (l0_0 : List Bool) (a0_1 : Int) (A0_2 : Option Addr) (c0_2 : Nat) (l0_2 : List (S36)) (r : Int) (w : World) (hr0_0 : Kd.C Kd.bool w A0_0 l0_0.length l0_0) (hc0_0 : l0_0.length ≤ c0_0) (hr0_2 : Kd.C k36 w A0_2 l0_2.length l0_2) (hc0_2 : l0_2.length ≤ c0_2) (h : turnstilelaw01_GraphSize.f k l0_0 a0_1 l0_2 = some r) :
    Calls Try.prog 14 #[.agg #[.slice A0_0 l0_0.length c0_0, .int .i64 a0_1, .slice A0_2 l0_2.length c0_2]] w fun e w' => e = .returned (.int .i64 r) ∧ Below w.heap.size w w' := by
  have hu25 := Try.underlying25
  have HR0_0 := Aside0.mk hr0_0
  have HC0_0 := Aside0.mk hc0_0
  clear hr0_0 hc0_0
  have HR0_2 := Aside0.mk hr0_2
  have HC0_2 := Aside0.mk hc0_2
  clear hr0_2 hc0_2
  have HB := Aside0.mk (Below.refl w.heap.size w)
  have H : (turnstilelaw01_GraphSize.l0 k (wrap64 ((wrap64 (262144 - (l0_0.length : Int))) - (l0_2.length : Int))) 0 l0_0 a0_1 l0_2) = some r := h
  clear h
  have H' := Aside0.mk H
  clear H
  go_enter Try.func14, Try.ntmps14
  go_wp2_with (first | ((with_reducible refine gate_dst (N := 1) rfl ?_); refine box_event ?hg (N := 1) ?hd (cs := #[.slice A0_0 l0_0.length c0_0, .int .i64 a0_1, .slice A0_2 l0_2.length c0_2]) (t := 25) ?hr ?_; (case hd => rfl); (case hg => rfl); (case hr => first | (go_simp; done) | (go_simp; rfl)); intro gb104 hg w2 hbox hb; have n0_ := Aside0.mk (below_step (by repeat (first | (with_reducible first | exact HB.out | apply below_alloc | apply pw_below_drewN | apply below_drew1) | exact HB.out)) hb); have n1_ := Aside0.mk (hbox); have n2_ := Aside0.mk ((by rw [hg]; exact (below_size (by repeat (first | (with_reducible first | exact HB.out | apply below_alloc | apply pw_below_drewN | apply below_drew1) | exact HB.out))) : w.heap.size ≤ gb104)); have n3_ := Aside0.mk ((by rw [hg]; exact (below_size (by repeat (first | (with_reducible first | exact HB.out | apply below_alloc | apply pw_below_drewN | apply below_drew1) | exact HB.out))) : w.heap.size ≤ gb104)); clear HB; have HB := n0_; have BK104 := n1_; have GW104 := n2_; have GE104 := n3_; clear n0_ n1_ n2_ n3_; clear hb hbox hg; have hcz3_0 : w2.cell? ⟨gb104, 0, none⟩ = some (.slice A0_0 l0_0.length c0_0) := (blk_cell BK104.out 0).trans rfl; have hcz3_1 : w2.cell? ⟨gb104, 1, none⟩ = some (.int .i64 a0_1) := (blk_cell BK104.out 1).trans rfl; have hcz3_2 : w2.cell? ⟨gb104, 2, none⟩ = some (.slice A0_2 l0_2.length c0_2) := (blk_cell BK104.out 2).trans rfl; have hfz3_0 := blk_frozen BK104.out 0; have hfz3_1 := blk_frozen BK104.out 1; have hfz3_2 := blk_frozen BK104.out 2))
  go_loopg [3, 4] k (fun kq v3 v4 w' => ∃ (x3_1 : Int) (x4_1 : Int), v3 = .int .i64 x3_1 ∧ v4 = .int .i64 x4_1 ∧ Aside0 (turnstilelaw01_GraphSize.l0 kq x3_1 x4_1 l0_0 a0_1 l0_2 = some r) ∧ Aside0 (kq ≤ k) ∧ Aside0 (w'.heap[gb104]? = some (.cells #[(.slice A0_0 l0_0.length c0_0), .int .i64 a0_1, (.slice A0_2 l0_2.length c0_2)] 25 (0, 0))) ∧ Aside0 (Below w.heap.size w w'))
  case atStart => exact ⟨(wrap64 ((wrap64 (262144 - (l0_0.length : Int))) - (l0_2.length : Int))), (0), (by first | rfl | (simp; done) | (simp [*]; done)), (by first | rfl | (simp; done) | (simp [*]; done)), H', ⟨Nat.le_refl _⟩, ⟨by (with_reducible repeat (first | refine blk_drewN ?_ _ | refine blk_drew ?_ | refine blk_alloc ?_ _)); exact BK104.out⟩, ⟨by repeat (first | (with_reducible first | exact HB.out | apply below_alloc | apply pw_below_drewN | apply below_drew1 | refine below_set ?_ GE104.out) | exact HB.out)⟩⟩
  case round =>
    clear H'
    try clear c1
    try clear p2
    try clear hcz3_0
    try clear hcz3_1
    try clear hcz3_2
    try clear hfz3_0
    try clear hfz3_1
    try clear hfz3_2
    obtain ⟨x3_1, x4_1, rfl, rfl, HA, HK1, BK104, HB⟩ := hrel
    cases gk with
    | zero => exact absurd HA.out (by simp [turnstilelaw01_GraphSize.l0])
    | succ k1 =>
      have H := HA.out
      clear HA
      simp only [turnstilelaw01_GraphSize.l0] at H
      by_cases c4 : x4_1 < (l0_2.length : Int)
      · rw [if_pos c4] at H
        have c4b0 : decide (x4_1 < (l0_2.length : Int)) = true := decide_eq_true c4
        clear c4
        by_cases c5 : x3_1 ≥ 0
        · rw [if_pos c5] at H
          have c5b0 : decide (0 ≤ x3_1) = true := decide_eq_true c5
          clear c5
          by_cases c6 : 0 ≤ x4_1
          · rw [if_pos c6] at H
            have c6b0 : decide (0 ≤ x4_1) = true := decide_eq_true c6
            clear c6
            have H' := Aside0.mk H
            clear H
            have hcz7_0 : wr.cell? ⟨gb104, 0, none⟩ = some (.slice A0_0 l0_0.length c0_0) := (blk_cell BK104.out 0).trans rfl
            have hcz7_1 : wr.cell? ⟨gb104, 1, none⟩ = some (.int .i64 a0_1) := (blk_cell BK104.out 1).trans rfl
            have hcz7_2 : wr.cell? ⟨gb104, 2, none⟩ = some (.slice A0_2 l0_2.length c0_2) := (blk_cell BK104.out 2).trans rfl
            have hfz7_0 := blk_frozen BK104.out 0
            have hfz7_1 := blk_frozen BK104.out 1
            have hfz7_2 := blk_frozen BK104.out 2
            have p105 : 0 ≤ (x4_1 : Int) := of_decide_eq_true (by first | (with_reducible assumption) | assumption)
            have q105 : x4_1 < (l0_2.length : Int) := of_decide_eq_true (by first | (with_reducible assumption) | assumption)
            obtain ⟨ad105, A105_0, c105_0, e105, hx105_0, hx105_1, hx105_2, hx105_3, hx105_4, hl105_0, hi105_0⟩ := at_T36 HR0_2.out x4_1 p105 q105
            cases e105
            replace hx105_0 := (HB.out.cell (World.block_lt_of_cell? w _ hx105_0)).trans hx105_0
            replace hx105_1 := (HB.out.cell (World.block_lt_of_cell? w _ hx105_1)).trans hx105_1
            replace hx105_2 := (HB.out.cell (World.block_lt_of_cell? w _ hx105_2)).trans hx105_2
            replace hx105_3 := (HB.out.cell (World.block_lt_of_cell? w _ hx105_3)).trans hx105_3
            replace hx105_4 := (HB.out.cell (World.block_lt_of_cell? w _ hx105_4)).trans hx105_4
            have HR105_0 := Aside0.mk hi105_0
            have HC105_0 := Aside0.mk hl105_0
            clear hi105_0 hl105_0
            replace p105 := eq_true p105
            replace q105 := eq_true q105
            go_wp2
            go_roundg k1
            case measure => have := HK1.out; omega
            case rel => exact ⟨(wrap64 (x3_1 - (((rd_T36 l0_2 x4_1).f0).length : Int))), (wrap64 (x4_1 + 1)), (by first | rfl | (simp; done) | (simp [*]; done)), (by first | rfl | (simp; done) | (simp [*]; done)), H', ⟨by have := HK1.out; omega⟩, ⟨by (with_reducible repeat (first | refine blk_drewN ?_ _ | refine blk_drew ?_ | refine blk_alloc ?_ _)); exact BK104.out⟩, ⟨by repeat (first | (with_reducible first | exact HB.out | apply below_alloc | apply pw_below_drewN | apply below_drew1 | refine below_set ?_ GE104.out) | exact HB.out)⟩⟩
          · rw [if_neg c6] at H
            exact absurd H (by simp)
        · rw [if_neg c5] at H
          have c5b0 : decide (0 ≤ x3_1) = false := decide_eq_false c5
          clear c5
          replace H := Option.bind_eq_some_iff.mp H
          obtain ⟨t106, A80, H⟩ := H
          replace H : (some t106) = some r := H
          have A8 := Aside0.mk A80
          clear A80
          obtain rfl := Option.some.inj H
          have hcz9_0 : wr.cell? ⟨gb104, 0, none⟩ = some (.slice A0_0 l0_0.length c0_0) := (blk_cell BK104.out 0).trans rfl
          have hcz9_1 : wr.cell? ⟨gb104, 1, none⟩ = some (.int .i64 a0_1) := (blk_cell BK104.out 1).trans rfl
          have hcz9_2 : wr.cell? ⟨gb104, 2, none⟩ = some (.slice A0_2 l0_2.length c0_2) := (blk_cell BK104.out 2).trans rfl
          have hfz9_0 := blk_frozen BK104.out 0
          have hfz9_1 := blk_frozen BK104.out 1
          have hfz9_2 := blk_frozen BK104.out 2
          go_wp2_with (first | ((with_reducible refine gate_callee (f := 55) rfl ?_); refine goesL_ (some 34) rfl rfl Try.func55 (by kernel_rfl) rfl #[.int .i64 x3_1] rfl (by (try simp only [List.map_toArray, List.map_cons, List.map_nil]); first | done | rfl | (simp only [List.length_drop, List.length_take]; rfl)) ?_; (with_reducible refine (turnstilelaw01_counted.calls x3_1 t106 _ A8.out).mono ?_); rintro e w' ⟨rfl, ⟨nd, rfl⟩⟩; refine ⟨_, rfl, ?_⟩))
          go_ret
          exact ⟨by first | rfl | (simp [errW_none, errW_some] <;> rfl) | (simp [*, errW_none, errW_some] <;> rfl), by repeat (first | (with_reducible first | exact HB.out | apply below_alloc | apply pw_below_drewN | apply below_drew1 | refine below_set ?_ GE104.out) | exact HB.out)⟩
      · rw [if_neg c4] at H
        have c4b0 : decide (x4_1 < (l0_2.length : Int)) = false := decide_eq_false c4
        clear c4
        replace H := Option.bind_eq_some_iff.mp H
        obtain ⟨t107, A100, H⟩ := H
        replace H : (some t107) = some r := H
        have A10 := Aside0.mk A100
        clear A100
        obtain rfl := Option.some.inj H
        have hcz11_0 : wr.cell? ⟨gb104, 0, none⟩ = some (.slice A0_0 l0_0.length c0_0) := (blk_cell BK104.out 0).trans rfl
        have hcz11_1 : wr.cell? ⟨gb104, 1, none⟩ = some (.int .i64 a0_1) := (blk_cell BK104.out 1).trans rfl
        have hcz11_2 : wr.cell? ⟨gb104, 2, none⟩ = some (.slice A0_2 l0_2.length c0_2) := (blk_cell BK104.out 2).trans rfl
        have hfz11_0 := blk_frozen BK104.out 0
        have hfz11_1 := blk_frozen BK104.out 1
        have hfz11_2 := blk_frozen BK104.out 2
        go_wp2_with (first | ((with_reducible refine gate_callee (f := 55) rfl ?_); refine goesL_ (some 34) rfl rfl Try.func55 (by kernel_rfl) rfl #[.int .i64 x3_1] rfl (by (try simp only [List.map_toArray, List.map_cons, List.map_nil]); first | done | rfl | (simp only [List.length_drop, List.length_take]; rfl)) ?_; (with_reducible refine (turnstilelaw01_counted.calls x3_1 t107 _ A10.out).mono ?_); rintro e w' ⟨rfl, ⟨nd, rfl⟩⟩; refine ⟨_, rfl, ?_⟩))
        go_ret
        exact ⟨by first | rfl | (simp [errW_none, errW_some] <;> rfl) | (simp [*, errW_none, errW_some] <;> rfl), by repeat (first | (with_reducible first | exact HB.out | apply below_alloc | apply pw_below_drewN | apply below_drew1 | refine below_set ?_ GE104.out) | exact HB.out)⟩
end Go.Proofs.Ytjmeignhhheckaa.Q
namespace Go.Proofs.Ytjmeignhhheckaa.Q
open Go.RowKit Go.Proofs.YtjmeignhhheckaaW.PrintWords Go.Proofs.YtjmeignhhheckaaW.PrintLast Go.Proofs.YtjmeignhhheckaaW.PrintMore
attribute [local go_sem] max2_int min2_int max_two min_two max_three min_three max_four min_four   -- for this text's walks alone
set_option linter.unusedVariables false
set_option linter.unusedSimpArgs false
mutual
def turnstilelaw01_Beyond.l0 : Nat → List Int → Int → Int → Option (Bool)
  | 0, _, _, _ => none
  | k + 1, x0, x3, x4 => if x4 < (x0.length : Int) then (if 0 ≤ x4 then (if (rd x0 x4) < 0 then (turnstilelaw01_Beyond.j1 k x0 x3 x4 true) else (turnstilelaw01_Beyond.j1 k x0 x3 x4 (decide ((rd x0 x4) > 262144)))) else (none)) else (some false)
def turnstilelaw01_Beyond.j1 : Nat → List Int → Int → Int → Bool → Option (Bool)
  | 0, _, _, _, _ => none
  | k + 1, x0, x3, x4, x22 => if x22 = true then (some true) else (if 0 ≤ x4 then (if x4 < (x0.length : Int) then (if (wrap64 (x3 + (rd x0 x4))) > 262144 then (some true) else (turnstilelaw01_Beyond.l0 k x0 (wrap64 (x3 + (rd x0 x4))) (wrap64 (x4 + 1)))) else (none)) else (none))
end
def turnstilelaw01_Beyond.f (k : Nat) (l0 : List Int) : Option (Bool) := turnstilelaw01_Beyond.l0 k l0 0 0
theorem turnstilelaw01_Beyond.mono_l : ∀ k, (∀ y0 y1 y2, LeO (turnstilelaw01_Beyond.l0 k y0 y1 y2) (turnstilelaw01_Beyond.l0 (k + 1) y0 y1 y2)) ∧ (∀ y0 y1 y2 y3, LeO (turnstilelaw01_Beyond.j1 k y0 y1 y2 y3) (turnstilelaw01_Beyond.j1 (k + 1) y0 y1 y2 y3))
  | 0 => ⟨fun _ _ _ r h => by simp [turnstilelaw01_Beyond.l0] at h, fun _ _ _ _ r h => by simp [turnstilelaw01_Beyond.j1] at h⟩
  | k + 1 => by
    obtain ⟨ih0, ih1⟩ := turnstilelaw01_Beyond.mono_l k
    refine ⟨?_, ?_⟩
    · intro y0 y1 y2
      unfold turnstilelaw01_Beyond.l0
      repeat' first
      | (with_reducible exact ih0 _ _ _)
      | (with_reducible exact ih1 _ _ _ _)
      | (with_reducible exact LeO.refl _)
      | (with_reducible exact LeO.none _)
      | (with_reducible refine LeO.ite ?_ ?_)
      | (with_reducible refine LeO.bind ?_ (fun _ => ?_))
      | exact ih0 _ _ _
      | exact ih1 _ _ _ _
      | exact LeO.none _
      | refine LeO.ite ?_ ?_
      | refine LeO.bind ?_ (fun _ => ?_)
    · intro y0 y1 y2 y3
      unfold turnstilelaw01_Beyond.j1
      repeat' first
      | (with_reducible exact ih0 _ _ _)
      | (with_reducible exact ih1 _ _ _ _)
      | (with_reducible exact LeO.refl _)
      | (with_reducible exact LeO.none _)
      | (with_reducible refine LeO.ite ?_ ?_)
      | (with_reducible refine LeO.bind ?_ (fun _ => ?_))
      | exact ih0 _ _ _
      | exact ih1 _ _ _ _
      | exact LeO.none _
      | refine LeO.ite ?_ ?_
      | refine LeO.bind ?_ (fun _ => ?_)
theorem turnstilelaw01_Beyond.mono : ∀ a0 k, LeO (turnstilelaw01_Beyond.f k a0) (turnstilelaw01_Beyond.f (k + 1) a0) := by
  intro a0 k
  obtain ⟨ih0, ih1⟩ := turnstilelaw01_Beyond.mono_l k
  unfold turnstilelaw01_Beyond.f
  repeat' first
      | (with_reducible exact ih0 _ _ _)
      | (with_reducible exact ih1 _ _ _ _)
      | (with_reducible exact LeO.refl _)
      | (with_reducible exact LeO.none _)
      | (with_reducible refine LeO.ite ?_ ?_)
      | (with_reducible refine LeO.bind ?_ (fun _ => ?_))
      | exact ih0 _ _ _
      | exact ih1 _ _ _ _
      | exact LeO.none _
      | refine LeO.ite ?_ ?_
      | refine LeO.bind ?_ (fun _ => ?_)
set_option maxHeartbeats 8000000 in
set_option maxRecDepth 100000 in
theorem turnstilelaw01_Beyond.calls (k : Nat) (A0 : Option Addr) (c0 : Nat) (l0 : List Int) (r : Bool) (w : World) (hr0 : Kd.C (Kd.int .i64) w A0 l0.length l0) (hc0 : l0.length ≤ c0) (h : turnstilelaw01_Beyond.f k l0 = some r) :
    Calls Try.prog 13 #[.slice A0 l0.length c0] w fun e w' => e = .returned (.bool r) ∧ Drawn0 w w' := by
  have HR0 := Aside0.mk hr0
  have HC0 := Aside0.mk hc0
  clear hr0 hc0
  have H : (turnstilelaw01_Beyond.l0 k l0 0 0) = some r := h
  clear h
  have H' := Aside0.mk H
  clear H
  go_enter Try.func13, Try.ntmps13
  go_wp2
  go_loopg [3, 4] k (fun kq v3 v4 w' => ∃ (x3_1 : Int) (x4_1 : Int), v3 = .int .i64 x3_1 ∧ v4 = .int .i64 x4_1 ∧ Aside0 (turnstilelaw01_Beyond.l0 kq l0 x3_1 x4_1 = some r) ∧ Aside0 (kq ≤ k) ∧ Drawn0 w w')
  case atStart => exact ⟨(0), (0), (by first | rfl | (simp; done) | (simp [*]; done)), (by first | rfl | (simp; done) | (simp [*]; done)), H', ⟨Nat.le_refl _⟩, by repeat (first | exact Drawn0.refl _ | apply Drawn0.step)⟩
  case round =>
    clear H'
    try clear c1
    obtain ⟨x3_1, x4_1, rfl, rfl, HA, HK1, ⟨m1, rfl⟩⟩ := hrel
    cases gk with
    | zero => exact absurd HA.out (by simp [turnstilelaw01_Beyond.l0])
    | succ k1 =>
      have H := HA.out
      clear HA
      simp only [turnstilelaw01_Beyond.l0] at H
      by_cases c2 : x4_1 < (l0.length : Int)
      · rw [if_pos c2] at H
        have c2b0 : decide (x4_1 < (l0.length : Int)) = true := decide_eq_true c2
        clear c2
        have HC3 := Aside0.mk H
        clear H
        go_upto_region 5 with (fail)
        go_cut [22] (fun v22 wc => ∃ (kq : Nat) (x22_2 : Bool), v22 = .bool x22_2 ∧ Aside0 (turnstilelaw01_Beyond.j1 kq l0 x3_1 x4_1 x22_2 = some r) ∧ Aside0 (kq ≤ k1) ∧ Drawn0 w wc)
        case first =>
          have H := HC3.out
          clear HC3
          by_cases c4 : 0 ≤ x4_1
          · rw [if_pos c4] at H
            have c4b0 : decide (0 ≤ x4_1) = true := decide_eq_true c4
            clear c4
            (first | rw [c4b0] | (simp only [i64_w, i32_w]; rw [c4b0]) | skip)
            by_cases c5 : (rd l0 x4_1) < 0
            · rw [if_pos c5] at H
              have c5b0 : decide ((rd l0 x4_1) < 0) = true := decide_eq_true c5
              clear c5
              have H' := Aside0.mk H
              clear H
              have p101 : 0 ≤ (x4_1 : Int) := of_decide_eq_true (by first | (with_reducible assumption) | assumption)
              have q101 : x4_1 < (l0.length : Int) := of_decide_eq_true (by first | (with_reducible assumption) | assumption)
              obtain ⟨ad101, e101, hx101_0⟩ := Kd.at_int HR0.out x4_1 p101 q101
              cases e101
              replace p101 := eq_true p101
              replace q101 := eq_true q101
              go_wp2
              go_meet
              case rel => exact ⟨_, (true), (by first | rfl | (simp; done) | (simp [*]; done)), H', ⟨by have := HK1.out; first | omega | exact Nat.le_refl _⟩, by repeat (first | exact Drawn0.refl _ | apply Drawn0.step)⟩
            · rw [if_neg c5] at H
              have c5b0 : decide ((rd l0 x4_1) < 0) = false := decide_eq_false c5
              clear c5
              have H' := Aside0.mk H
              clear H
              have p101 : 0 ≤ (x4_1 : Int) := of_decide_eq_true (by first | (with_reducible assumption) | assumption)
              have q101 : x4_1 < (l0.length : Int) := of_decide_eq_true (by first | (with_reducible assumption) | assumption)
              obtain ⟨ad101, e101, hx101_0⟩ := Kd.at_int HR0.out x4_1 p101 q101
              cases e101
              replace p101 := eq_true p101
              replace q101 := eq_true q101
              have p102 : 0 ≤ (x4_1 : Int) := of_decide_eq_true (by first | (with_reducible assumption) | assumption)
              have q102 : x4_1 < (l0.length : Int) := of_decide_eq_true (by first | (with_reducible assumption) | assumption)
              obtain ⟨ad102, e102, hx102_0⟩ := Kd.at_int HR0.out x4_1 p102 q102
              obtain rfl : ad101 = ad102 := (by injection e102)
              replace p102 := eq_true p102
              replace q102 := eq_true q102
              go_wp2
              go_meet
              case rel => exact ⟨_, (decide ((rd l0 x4_1) > 262144)), (by first | rfl | (simp; done) | (simp [*]; done)), H', ⟨by have := HK1.out; first | omega | exact Nat.le_refl _⟩, by repeat (first | exact Drawn0.refl _ | apply Drawn0.step)⟩
          · rw [if_neg c4] at H
            exact absurd H (by simp)
        case rest =>
          clear HC3
          try clear c1
          try clear p1
          try clear q1
          try clear hx1
          try clear c2
          try clear c2b0
          try clear p2
          try clear c4
          try clear c4b0
          try clear c5
          try clear c5b0
          try clear hx101_0
          try clear hx102_0
          try clear p101
          try clear p102
          try clear q101
          try clear q102
          obtain ⟨kq, x22_2, rfl, HA, HJ2, ⟨mc2, rfl⟩⟩ := hcut
          cases kq with
          | zero => exact absurd HA.out (by simp [turnstilelaw01_Beyond.j1])
          | succ kj2 =>
            have H := HA.out
            clear HA
            simp only [turnstilelaw01_Beyond.j1] at H
            by_cases c6 : x22_2 = true
            · subst c6
              have H1 : (some true) = some r := by rw [if_pos rfl] at H; exact H
              clear H
              have H := H1
              clear H1
              obtain rfl := Option.some.inj H
              go_wp2
              go_ret
              exact ⟨by first | rfl | (simp; done) | (simp [*]; done), by repeat (first | exact Drawn0.refl _ | apply Drawn0.step)⟩
            · replace c6 := Bool.eq_false_iff.mpr c6
              subst c6
              have H1 : (if 0 ≤ x4_1 then (if x4_1 < (l0.length : Int) then (if (wrap64 (x3_1 + (rd l0 x4_1))) > 262144 then (some true) else (turnstilelaw01_Beyond.l0 kj2 l0 (wrap64 (x3_1 + (rd l0 x4_1))) (wrap64 (x4_1 + 1)))) else (none)) else (none)) = some r := by rw [if_neg (show ¬ (false = true) by decide)] at H; exact H
              clear H
              have H := H1
              clear H1
              by_cases c7 : 0 ≤ x4_1
              · rw [if_pos c7] at H
                have c7b0 : decide (0 ≤ x4_1) = true := decide_eq_true c7
                clear c7
                by_cases c8 : x4_1 < (l0.length : Int)
                · rw [if_pos c8] at H
                  have c8b0 : decide (x4_1 < (l0.length : Int)) = true := decide_eq_true c8
                  clear c8
                  by_cases c9 : (wrap64 (x3_1 + (rd l0 x4_1))) > 262144
                  · rw [if_pos c9] at H
                    have c9b0 : decide (262144 < (wrap64 (x3_1 + (rd l0 x4_1)))) = true := decide_eq_true c9
                    clear c9
                    obtain rfl := Option.some.inj H
                    have p103 : 0 ≤ (x4_1 : Int) := of_decide_eq_true (by first | (with_reducible assumption) | assumption)
                    have q103 : x4_1 < (l0.length : Int) := of_decide_eq_true (by first | (with_reducible assumption) | assumption)
                    obtain ⟨ad103, e103, hx103_0⟩ := Kd.at_int HR0.out x4_1 p103 q103
                    cases e103
                    replace p103 := eq_true p103
                    replace q103 := eq_true q103
                    go_wp2
                    go_ret
                    exact ⟨by first | rfl | (simp; done) | (simp [*]; done), by repeat (first | exact Drawn0.refl _ | apply Drawn0.step)⟩
                  · rw [if_neg c9] at H
                    have c9b0 : decide (262144 < (wrap64 (x3_1 + (rd l0 x4_1)))) = false := decide_eq_false c9
                    clear c9
                    have H' := Aside0.mk H
                    clear H
                    have p103 : 0 ≤ (x4_1 : Int) := of_decide_eq_true (by first | (with_reducible assumption) | assumption)
                    have q103 : x4_1 < (l0.length : Int) := of_decide_eq_true (by first | (with_reducible assumption) | assumption)
                    obtain ⟨ad103, e103, hx103_0⟩ := Kd.at_int HR0.out x4_1 p103 q103
                    cases e103
                    replace p103 := eq_true p103
                    replace q103 := eq_true q103
                    go_wp2
                    go_roundg kj2
                    case measure => have := HK1.out; have := HJ2.out; omega
                    case rel => exact ⟨(wrap64 (x3_1 + (rd l0 x4_1))), (wrap64 (x4_1 + 1)), (by first | rfl | (simp; done) | (simp [*]; done)), (by first | rfl | (simp; done) | (simp [*]; done)), H', ⟨by have := HK1.out; have := HJ2.out; omega⟩, by repeat (first | exact Drawn0.refl _ | apply Drawn0.step)⟩
                · rw [if_neg c8] at H
                  exact absurd H (by simp)
              · rw [if_neg c7] at H
                exact absurd H (by simp)
      · rw [if_neg c2] at H
        have c2b0 : decide (x4_1 < (l0.length : Int)) = false := decide_eq_false c2
        clear c2
        obtain rfl := Option.some.inj H
        go_wp2
        go_ret
        exact ⟨by first | rfl | (simp; done) | (simp [*]; done), by repeat (first | exact Drawn0.refl _ | apply Drawn0.step)⟩
end Go.Proofs.Ytjmeignhhheckaa.Q

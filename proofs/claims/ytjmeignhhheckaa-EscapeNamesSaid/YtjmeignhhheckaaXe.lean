/- Part 5 of the proof: contracts of the functions that are reached, and the plain law. -/
import Derived.Test.YtjmeignhhheckaaXd
import Derived.Deep.RegionLaw
set_option linter.unusedVariables false
set_option linter.unusedSimpArgs false
namespace Go.Proofs.Ytjmeignhhheckaa.H
open Go.RowKit Go.Maps Go.Proofs.YtjmeignhhheckaaW.PrintWords Go.Proofs.YtjmeignhhheckaaW.PrintLast Go.Proofs.Ytjmeignhhheckaa.Q
set_option maxRecDepth 100000
/-- an instruction that fits the rows -/
structure InsOk (p : EP) (n k : Nat) (i : S46) : Prop where
  a : (i.f0 = 7 ∨ i.f0 = 2 ∨ i.f0 = 8 ∨ i.f0 = 10 ∨ i.f0 = 6 ∨ i.f0 = 9 ∨ i.f0 = 11) → 0 ≤ i.f2 ∧ i.f2 < p.rb.length
  b : (i.f0 = 2 ∨ isMem i = true) → 0 ≤ i.f3 ∧ i.f3 < p.rb.length
  c : i.f0 = 7 → 0 ≤ i.f4 ∧ i.f4 < p.u + 1
  l : ∀ x ∈ (atS p.l0 p.u p.bs n k).1, 0 ≤ x ∧ x.toNat < p.rb.length
  ll : (atS p.l0 p.u p.bs n k).1.length ≤ 5000
theorem flows_any (p : EP) (ok : EPok p) (hs : smallG p.bs) (st : ESt) (n k : Nat) (i : S46) (hi : InsOk p n k i) (w : World) (h : ES p st w) :
    Calls Try.prog 102 #[.pointer (some ⟨p.gs, 0, none⟩), .agg #[.int .i64 n, .int .i64 k], .agg #[.int .u8 i.f0, .int .u8 i.f1, .int .i64 i.f2, .int .i64 i.f3, .int .i64 i.f4, .int .i64 i.f5]] w fun e w' =>
      e = .returned (.bool (flowsS p.l0 p.u p.bs n k i st).2) ∧ ES p (flowsS p.l0 p.u p.bs n k i st).1 w' ∧ Fr p w w' := by
  unfold flowsS
  obtain ⟨f0, f1, f2, f3, f4, f5⟩ := i
  have ha := hi.a
  have hb := hi.b
  have hc := hi.c
  dsimp only at ha hb hc ⊢
  by_cases h7 : f0 = 7
  · rw [if_pos h7]
    have ha2 := ha (.inl h7)
    have hc2 := hc h7
    obtain ⟨a, rfl⟩ := Int.eq_ofNat_of_zero_le ha2.1
    obtain ⟨s, rfl⟩ := Int.eq_ofNat_of_zero_le hc2.1
    subst h7
    exact flows_new p ok st n k f1 f5 f3 a s w h (by omega) (by omega)
  rw [if_neg h7]
  by_cases h2 : f0 = 2
  · rw [if_pos h2]
    have ha2 := ha (.inr (.inl h2))
    have hb2 := hb (.inl h2)
    obtain ⟨a, rfl⟩ := Int.eq_ofNat_of_zero_le ha2.1
    obtain ⟨s, rfl⟩ := Int.eq_ofNat_of_zero_le hb2.1
    subst h2
    exact flows_move p ok st n k f1 f4 f5 a s w h (by omega) (by omega)
  rw [if_neg h2]
  by_cases h8 : f0 = 8 ∨ f0 = 10 ∨ f0 = 6
  · rw [if_pos h8]
    have ha2 := ha (by rcases h8 with h | h | h <;> simp [h])
    obtain ⟨a, rfl⟩ := Int.eq_ofNat_of_zero_le ha2.1
    exact flows_unk p ok st n k f0 f1 f3 f4 f5 a w h (by omega) h8
  rw [if_neg h8]
  by_cases h13 : f0 = 13
  · rw [if_pos h13]
    subst h13
    exact flows_begin p ok st n k f1 f2 f3 f4 f5 w h hs hi.l hi.ll
  rw [if_neg h13]
  exact flows_skip p st n k f0 f1 f2 f3 f4 f5 w h h7 h2 (fun e => h8 (.inl e)) (fun e => h8 (.inr (.inl e))) (fun e => h8 (.inr (.inr e))) h13
theorem ES.away {p : EP} {st : ESt} {w : World} (h : ES p st w) {g t : Nat} {C : Array Value} (hb : w.heap[g]? = some (.cells C t (0, 0))) (ht : t ≠ 4) : g ∉ p.rb ∧ g ≠ p.gg := by
  refine ⟨fun hm => ?_, blk_ne hb h.g ht⟩
  obtain ⟨j, hj, e⟩ := List.getElem_of_mem hm
  have := h.rows j hj
  rw [List.getD_eq_getElem?_getD (l := p.rb), List.getElem?_eq_getElem hj] at this
  simp only [Option.getD_some] at this
  exact blk_ne hb this ht e.symm
/-- the second thing that again does -/
theorem drop_none (p : EP) (st : ESt) (n k : Nat) (f0 f1 f2 f3 f4 f5 : Int) (g7 : Nat) (w : World) (h : ES p st w) (hm : isMem ⟨f0, f1, f2, f3, f4, f5⟩ = false) :
    Calls Try.prog 103 #[.agg #[.int .i64 n, .int .i64 k], .agg #[.int .u8 f0, .int .u8 f1, .int .i64 f2, .int .i64 f3, .int .i64 f4, .int .i64 f5], .pointer (some ⟨g7, 0, none⟩)] w fun e w' => e = .returned (.bool false) ∧ ES p st w' ∧ Fr p w w' := by
  have HB := Lib.hid (show Below w.heap.size w ((w.alloc (.cells #[.int .i64 n, .int .i64 k] 41)).alloc (.cells #[.int .u8 f0, .int .u8 f1, .int .i64 f2, .int .i64 f3, .int .i64 f4, .int .i64 f5] 46)) from below_alloc (below_alloc (Below.refl _ _) _) _)
  have HE := Lib.hid (h.below HB.out)
  have hm2 := hm
  unfold isMem at hm2
  simp only [Bool.or_eq_false_iff] at hm2
  have b9 := hm2.1.1.2
  have b11 := hm2.2
  have HBA := Lib.hid (based_any ⟨f0, f1, f2, f3, f4, f5⟩)
  rw [hm] at HBA
  dsimp only at HBA
  clear h hm hm2
  have hu46 := Try.underlying46
  have hu41 := Try.underlying41
  go_enter Try.func103, Try.ntmps103
  go_wp2_with (go_at_call 75; go_loud (refine (HBA.out _).mono ?_; rintro e w1 ⟨rfl, hb⟩; have HB1 := Lib.hid (below_step HB.out hb); have HE1 := Lib.hid (HE.out.below hb); clear hb))
  go_ret
  exact ⟨rfl, HE1.out, Fr.of_below HB1.out⟩
/-- a load's part: what it is based on -/
theorem drop_load (p : EP) (ok : EPok p) (st : ESt) (n k : Nat) (f0 f1 f2 f4 f5 : Int) (b : Nat) (g7 : Nat) (w : World) (h : ES p st w) (h7 : w.heap[g7]? = some (.cells #[.pointer (some ⟨p.gs, 0, none⟩)] 121 (0, 0))) (hm : isMem ⟨f0, f1, f2, b, f4, f5⟩ = true) (h9 : f0 ≠ 9) (h11 : f0 ≠ 11) (hb : b < p.rb.length) :
    Calls Try.prog 103 #[.agg #[.int .i64 n, .int .i64 k], .agg #[.int .u8 f0, .int .u8 f1, .int .i64 f2, .int .i64 b, .int .i64 f4, .int .i64 f5], .pointer (some ⟨g7, 0, none⟩)] w fun e w' =>
      e = .returned (.bool (if mixedS st p.u b then (loseS st p.u b).2 else false)) ∧ ES p (if mixedS st p.u b then (loseS st p.u b).1 else st) w' ∧ Fr p w w' := by
  have HOK := Lib.hid ok
  have HB := Lib.hid (show Below w.heap.size w ((w.alloc (.cells #[.int .i64 n, .int .i64 k] 41)).alloc (.cells #[.int .u8 f0, .int .u8 f1, .int .i64 f2, .int .i64 b, .int .i64 f4, .int .i64 f5] 46)) from below_alloc (below_alloc (Below.refl _ _) _) _)
  have HE := Lib.hid (h.below HB.out)
  have H7 := Lib.hid (blk_below h7 HB.out)
  have b9 : (f0 == 9) = false := beq_eq_false_iff_ne.2 h9
  have b11 : (f0 == 11) = false := beq_eq_false_iff_ne.2 h11
  have HBA := Lib.hid (based_any ⟨f0, f1, f2, b, f4, f5⟩)
  rw [hm] at HBA
  dsimp only at HBA
  have HMX := Lib.hid (fun w2 (h2 : ES p st w2) => mixed_any p ok st b w2 h2 hb)
  clear h hm ok h7 h9 h11
  have hu46 := Try.underlying46
  have hu41 := Try.underlying41
  cases hmx : mixedS st p.u b with
  | false =>
    rw [hmx] at HMX
    clear hmx
    go_enter Try.func103, Try.ntmps103
    go_wp2_with (first | (go_at_call 75; go_loud (refine (HBA.out _).mono ?_; rintro e w1 ⟨rfl, hb⟩; have HB1 := Lib.hid (below_step HB.out hb); have HE1 := Lib.hid (HE.out.below hb); have g7c := (blk_cell (blk_below H7.out hb) 0).trans rfl; clear hb)) | (go_at_call 76; go_loud (refine (HMX.out _ HE1.out).mono ?_; rintro e w2 ⟨rfl, rfl⟩)))
    go_ret
    exact ⟨rfl, HE1.out, Fr.of_below HB1.out⟩
  | true =>
    rw [hmx] at HMX
    clear hmx
    have HLO := Lib.hid (fun w2 (h2 : ES p st w2) => lose_any p HOK.out st b w2 h2 hb)
    simp only [if_true]
    generalize loseS st p.u b = r2 at HLO ⊢
    obtain ⟨s2, m2⟩ := r2
    dsimp only at HLO ⊢
    cases m2 with
    | true =>
      go_enter Try.func103, Try.ntmps103
      go_wp2_with (first | (go_at_call 75; go_loud (refine (HBA.out _).mono ?_; rintro e w1 ⟨rfl, hb⟩; have HB1 := Lib.hid (below_step HB.out hb); have HE1 := Lib.hid (HE.out.below hb); have g7c := (blk_cell (blk_below H7.out hb) 0).trans rfl; clear hb)) | (go_at_call 76; go_loud (refine (HMX.out _ HE1.out).mono ?_; rintro e w2 ⟨rfl, rfl⟩)) | (go_at_call 104; go_loud (refine (HLO.out _ HE1.out).mono ?_; rintro e w3 ⟨rfl, he, hf⟩; have HE3 := Lib.hid he; have HF3 := Lib.hid ((Fr.of_below HB1.out).trans hf); clear he hf)))
      go_ret
      exact ⟨rfl, HE3.out, HF3.out⟩
    | false =>
      go_enter Try.func103, Try.ntmps103
      go_wp2_with (first | (go_at_call 75; go_loud (refine (HBA.out _).mono ?_; rintro e w1 ⟨rfl, hb⟩; have HB1 := Lib.hid (below_step HB.out hb); have HE1 := Lib.hid (HE.out.below hb); have g7c := (blk_cell (blk_below H7.out hb) 0).trans rfl; clear hb)) | (go_at_call 76; go_loud (refine (HMX.out _ HE1.out).mono ?_; rintro e w2 ⟨rfl, rfl⟩)) | (go_at_call 104; go_loud (refine (HLO.out _ HE1.out).mono ?_; rintro e w3 ⟨rfl, he, hf⟩; have HE3 := Lib.hid he; have HF3 := Lib.hid ((Fr.of_below HB1.out).trans hf); clear he hf)))
      go_ret
      exact ⟨rfl, HE3.out, HF3.out⟩
set_option maxHeartbeats 4000000 in
/-- a store: what it stores, and what it is based on -/
theorem drop_store (p : EP) (ok : EPok p) (st : ESt) (n k : Nat) (f0 f1 f4 f5 : Int) (a b : Nat) (g7 : Nat) (w : World) (h : ES p st w) (h7 : w.heap[g7]? = some (.cells #[.pointer (some ⟨p.gs, 0, none⟩)] 121 (0, 0))) (h9 : f0 = 9 ∨ f0 = 11) (ha : a < p.rb.length) (hb : b < p.rb.length) :
    Calls Try.prog 103 #[.agg #[.int .i64 n, .int .i64 k], .agg #[.int .u8 f0, .int .u8 f1, .int .i64 a, .int .i64 b, .int .i64 f4, .int .i64 f5], .pointer (some ⟨g7, 0, none⟩)] w fun e w' =>
      e = .returned (.bool (if mixedS (loseS st p.u a).1 p.u b then (loseS (loseS st p.u a).1 p.u b).2 || (loseS st p.u a).2 else (loseS st p.u a).2)) ∧
      ES p (if mixedS (loseS st p.u a).1 p.u b then (loseS (loseS st p.u a).1 p.u b).1 else (loseS st p.u a).1) w' ∧ Fr p w w' := by
  have HOK := Lib.hid ok
  have HB := Lib.hid (show Below w.heap.size w ((w.alloc (.cells #[.int .i64 n, .int .i64 k] 41)).alloc (.cells #[.int .u8 f0, .int .u8 f1, .int .i64 a, .int .i64 b, .int .i64 f4, .int .i64 f5] 46)) from below_alloc (below_alloc (Below.refl _ _) _) _)
  have HE := Lib.hid (h.below HB.out)
  have H7 := Lib.hid (blk_below h7 HB.out)
  have HNI := Lib.hid (h.newb (g := w.heap.size + 1) (by omega))
  have HN7 := Lib.hid (h.away h7 (by decide))
  have HI := Lib.hid (show ((w.alloc (.cells #[.int .i64 n, .int .i64 k] 41)).alloc (.cells #[.int .u8 f0, .int .u8 f1, .int .i64 a, .int .i64 b, .int .i64 f4, .int .i64 f5] 46)).heap[w.heap.size + 1]? = some (.cells #[.int .u8 f0, .int .u8 f1, .int .i64 a, .int .i64 b, .int .i64 f4, .int .i64 f5] 46 (0, 0)) from by
    have := blk_new (w.alloc (.cells #[.int .i64 n, .int .i64 k] 41)) (.cells #[.int .u8 f0, .int .u8 f1, .int .i64 a, .int .i64 b, .int .i64 f4, .int .i64 f5] 46)
    rwa [World.size_alloc] at this)
  have HBA := Lib.hid (based_any ⟨f0, f1, a, b, f4, f5⟩)
  rw [show isMem ⟨f0, f1, a, b, f4, f5⟩ = true from by unfold isMem; rcases h9 with h | h <;> simp [h]] at HBA
  simp only [if_true] at HBA
  have HL1 := Lib.hid (fun w2 (h2 : ES p st w2) => lose_any p ok st a w2 h2 ha)
  have HMX := Lib.hid (fun st2 w2 (h2 : ES p st2 w2) => mixed_any p ok st2 b w2 h2 hb)
  have HL2 := Lib.hid (fun st2 w2 (h2 : ES p st2 w2) => lose_any p ok st2 b w2 h2 hb)
  clear h ok h7
  generalize loseS st p.u a = r1 at HL1 ⊢
  obtain ⟨s1, m1⟩ := r1
  dsimp only at HL1 ⊢
  have HMX := Lib.hid (HMX.out s1)
  have HL2 := Lib.hid (HL2.out s1)
  have hu46 := Try.underlying46
  have hu41 := Try.underlying41
  generalize loseS s1 p.u b = r2 at HL2 ⊢
  obtain ⟨s2, m2⟩ := r2
  dsimp only at HL2 ⊢
  have g7a := (blk_cell H7.out 0).trans rfl
  generalize mixedS s1 p.u b = mx at HMX ⊢
  rcases h9 with rfl | rfl
  all_goals
    cases mx <;> cases m1 <;> cases m2
    all_goals
      simp only [if_true, Bool.false_eq_true, if_false, Bool.or_true, Bool.or_false]
      go_enter Try.func103, Try.ntmps103
      go_wp2_with fail
      go_upto_region 4 with (go_at_call 104; go_loud (refine (HL1.out _ HE.out).mono ?_; rintro e w1 ⟨rfl, he, hf⟩; have HE1 := Lib.hid he; have HF1 := Lib.hid ((Fr.of_below HB.out).trans hf); have H71 := Lib.hid (hf.blk H7.out HN7.out); have HI1 := Lib.hid (hf.blk HI.out HNI.out); clear he hf g7a; have g7b := (blk_cell H71.out 0).trans rfl; have i0 := (blk_cell HI1.out 0).trans rfl; have i1 := (blk_cell HI1.out 1).trans rfl; have i2 := (blk_cell HI1.out 2).trans rfl; have i3 := (blk_cell HI1.out 3).trans rfl; have i4 := (blk_cell HI1.out 4).trans rfl; have i5 := (blk_cell HI1.out 5).trans rfl))
      go_wp2_with (first | (go_at_call 75; go_loud (refine (HBA.out _).mono ?_; rintro e w2 ⟨rfl, hb2⟩; have HB2 := Lib.hid hb2; have HE2 := Lib.hid (HE1.out.below hb2); clear g7b; have g7c := (blk_cell (blk_below H71.out hb2) 0).trans rfl; clear hb2)) | (go_at_call 76; go_loud (refine (HMX.out _ HE2.out).mono ?_; rintro e w3 ⟨rfl, rfl⟩)) | (go_at_call 104; go_loud (refine (HL2.out _ HE2.out).mono ?_; rintro e w4 ⟨rfl, he, hf⟩; have HE3 := Lib.hid he; have HF3 := Lib.hid ((HF1.out.trans (Fr.of_below HB2.out)).trans hf); clear he hf)))
      go_ret
      first | exact ⟨rfl, HE3.out, HF3.out⟩ | exact ⟨rfl, HE2.out, HF1.out.trans (Fr.of_below HB2.out)⟩
theorem drop_any (p : EP) (ok : EPok p) (st : ESt) (n k : Nat) (i : S46) (hi : InsOk p n k i) (g7 : Nat) (w : World) (h : ES p st w) (h7 : w.heap[g7]? = some (.cells #[.pointer (some ⟨p.gs, 0, none⟩)] 121 (0, 0))) :
    Calls Try.prog 103 #[.agg #[.int .i64 n, .int .i64 k], .agg #[.int .u8 i.f0, .int .u8 i.f1, .int .i64 i.f2, .int .i64 i.f3, .int .i64 i.f4, .int .i64 i.f5], .pointer (some ⟨g7, 0, none⟩)] w fun e w' =>
      e = .returned (.bool (dropS p.u i st).2) ∧ ES p (dropS p.u i st).1 w' ∧ Fr p w w' := by
  unfold dropS drop1
  obtain ⟨f0, f1, f2, f3, f4, f5⟩ := i
  have ha := hi.a
  have hb := hi.b
  dsimp only at ha hb ⊢
  cases hm : isMem ⟨f0, f1, f2, f3, f4, f5⟩ with
  | false =>
    have h9 : ¬ (f0 = 9 ∨ f0 = 11) := fun hh => by
      unfold isMem at hm
      rcases hh with hh | hh <;> simp [hh] at hm
    rw [if_neg h9, Bool.false_and, if_neg (by decide)]
    exact drop_none p st n k f0 f1 f2 f3 f4 f5 g7 w h hm
  | true =>
    have hb2 := hb (.inr hm)
    obtain ⟨b, rfl⟩ := Int.eq_ofNat_of_zero_le hb2.1
    rw [Bool.true_and, Int.toNat_natCast]
    by_cases h9 : f0 = 9 ∨ f0 = 11
    · have ha2 := ha (by rcases h9 with h | h <;> simp [h])
      obtain ⟨a, rfl⟩ := Int.eq_ofNat_of_zero_le ha2.1
      rw [if_pos h9, Int.toNat_natCast]
      have := drop_store p ok st n k f0 f1 f4 f5 a b g7 w h h7 h9 (by omega) (by omega)
      cases hq : mixedS (loseS st p.u a).1 p.u b with
      | true => rw [hq] at this; exact this
      | false => rw [hq] at this; exact this
    · rw [if_neg h9]
      have := drop_load p ok st n k f0 f1 f2 f4 f5 b g7 w h h7 hm (fun e => h9 (.inl e)) (fun e => h9 (.inr e)) (by omega)
      cases hq : mixedS st p.u b with
      | true =>
        rw [hq] at this
        simp only [if_true, Bool.or_false] at this ⊢
        exact this
      | false => rw [hq] at this; exact this
end Go.Proofs.Ytjmeignhhheckaa.H
namespace Go.Proofs.Ytjmeignhhheckaa.H
open Go.RowKit Go.Maps Go.Proofs.YtjmeignhhheckaaW.PrintWords Go.Proofs.YtjmeignhhheckaaW.PrintLast Go.Proofs.Ytjmeignhhheckaa.Q
set_option maxRecDepth 100000
/-- what each keeps: blocks of other types than bools, spots, rows of spots -/
def FrT (w w' : World) : Prop := w.heap.size ≤ w'.heap.size ∧ ∀ (k : Nat) (C : Array Value) (t : Nat), w.heap[k]? = some (.cells C t (0, 0)) → t ≠ 4 → t ≠ 41 → t ≠ 74 → w'.heap[k]? = some (.cells C t (0, 0))
theorem FrT.refl (w : World) : FrT w w := ⟨Nat.le_refl _, fun _ _ _ h _ _ _ => h⟩
theorem FrT.trans {w w1 w2 : World} (h : FrT w w1) (k : FrT w1 w2) : FrT w w2 := ⟨Nat.le_trans h.1 k.1, fun a C t ha h1 h2 h3 => k.2 a C t (h.2 a C t ha h1 h2 h3) h1 h2 h3⟩
theorem FrT.of_below {w w1 : World} (h : Below w.heap.size w w1) : FrT w w1 := ⟨h.size, fun k C t hb _ _ _ => blk_below hb h⟩
theorem FrT.of_fr {p : EP} {st : ESt} {w w1 : World} (he : ES p st w) (h : Fr p w w1) : FrT w w1 := ⟨h.1, fun k C t hb h4 _ _ => h.blk hb (he.away hb h4)⟩
abbrev Vis := Nat × Nat × S46
def visK (n : Nat) (b : Bool) (k : Nat) (s : Bool) (i : S46) : List Vis := if (s || i.f0 == 13) && b then [(n, k, i)] else []
theorem visB_at (n : Nat) (b : Bool) (l : List S46) (k : Nat) (s : Bool) (hk : k < l.length) : visB n b k s (l.drop k) = visK n b k s (l.getD k z46) ++ visB n b (k + 1) (if (l.getD k z46).f0 = 14 then false else s || (l.getD k z46).f0 == 13) (l.drop (k + 1)) := by
  rw [drop_at l k z46 hk, visB, visK]
theorem visN_at (reach ins : List Bool) (bs : List S36) (n : Nat) (hn : n < bs.length) : visN reach ins n (bs.drop n) = visB n (reach.getD n false) 0 (ins.getD n false) (rd_T36 bs (n : Int)).f0 ++ visN reach ins (n + 1) (bs.drop (n + 1)) := by
  rw [drop_at bs n z36 hn, visN]
  rfl
theorem visB_mem {n : Nat} {b : Bool} : ∀ (l : List S46) (k : Nat) (s : Bool) (v : Vis), v ∈ visB n b k s l → v.1 = n ∧ k ≤ v.2.1 ∧ l[v.2.1 - k]? = some v.2.2 := by
  intro l
  induction l with
  | nil => intro k s v h; cases h
  | cons i l ih =>
    intro k s v h
    rw [visB, List.mem_append] at h
    rcases h with h | h
    · split at h
      · rw [List.mem_singleton] at h
        subst h
        exact ⟨rfl, Nat.le_refl _, by simp⟩
      · cases h
    · obtain ⟨h1, h2, h3⟩ := ih (k + 1) _ v h
      refine ⟨h1, by omega, ?_⟩
      rw [show v.2.1 - k = (v.2.1 - (k + 1)) + 1 from by omega, List.getElem?_cons_succ]
      exact h3
theorem visN_mem {reach ins : List Bool} : ∀ (bs : List S36) (n : Nat) (v : Vis), v ∈ visN reach ins n bs → n ≤ v.1 ∧ ∃ x, bs[v.1 - n]? = some x ∧ x.f0[v.2.1]? = some v.2.2 := by
  intro bs
  induction bs with
  | nil => intro n v h; cases h
  | cons x bs ih =>
    intro n v h
    rw [visN, List.mem_append] at h
    rcases h with h | h
    · obtain ⟨h1, h2, h3⟩ := visB_mem _ _ _ v h
      refine ⟨by omega, x, by rw [h1]; simp, by simpa using h3⟩
    · obtain ⟨h1, y, h2, h3⟩ := ih (n + 1) v h
      refine ⟨by omega, y, ?_, h3⟩
      rw [show v.1 - n = (v.1 - (n + 1)) + 1 from by omega, List.getElem?_cons_succ]
      exact h2
theorem ES.reachC {p : EP} {st : ESt} {w : World} (h : ES p st w) (ok : EPok p) {n : Nat} (hn : n < p.bs.length) : w.cell? ⟨p.gr, n, none⟩ = some (.bool (p.reach.getD n false)) := by
  rw [blk_cell h.r]; exact ok.crv n hn
theorem ES.insC {p : EP} {st : ESt} {w : World} (h : ES p st w) (ok : EPok p) {n : Nat} (hn : n < p.bs.length) : w.cell? ⟨p.gi, n, none⟩ = some (.bool (p.ins.getD n false)) := by
  rw [blk_cell h.i]; exact ok.civ n hn
/-- what is done, what is left -/
def Done {X : Type} (step : Vis → X → X) (vis : List Vis) (x0 y : X) (rem : List Vis) : Prop := ∃ pre, pre ++ rem = vis ∧ pre.foldl (fun x v => step v x) x0 = y
theorem Done.next {X : Type} {step : Vis → X → X} {vis : List Vis} {x0 y : X} {v : Vis} {rem : List Vis} (h : Done step vis x0 y (v :: rem)) : Done step vis x0 (step v y) rem := by
  obtain ⟨pre, h1, h2⟩ := h
  exact ⟨pre ++ [v], by rw [List.append_assoc]; exact h1, by rw [List.foldl_append, h2]; rfl⟩
theorem Done.ends {X : Type} {step : Vis → X → X} {vis : List Vis} {x0 y : X} (h : Done step vis x0 y []) : vis.foldl (fun x v => step v x) x0 = y := by
  obtain ⟨pre, h1, h2⟩ := h
  rw [List.append_nil] at h1
  rw [← h1]; exact h2
set_option maxHeartbeats 4000000 in
theorem each_any {X : Type} (p : EP) (ok : EPok p) (F : Nat) (c1 c2 : Value) (Inv : X → World → Prop) (step : Vis → X → X)
    (hES : ∀ x W, Inv x W → ∃ st, ES p st W) (hB : ∀ x W W', Inv x W → Below W.heap.size W W' → Inv x W')
    (x0 : X) (hstep : ∀ (pre post : List Vis) (n k : Nat) (i : S46) x W, pre ++ (n, k, i) :: post = visits p.reach p.ins p.bs → pre.foldl (fun x v => step v x) x0 = x → Inv x W → Calls Try.prog F #[.agg #[.int .i64 n, .int .i64 k], .agg #[.int .u8 i.f0, .int .u8 i.f1, .int .i64 i.f2, .int .i64 i.f3, .int .i64 i.f4, .int .i64 i.f5], c1, c2] W fun e w' => e = .returned (.tuple #[]) ∧ Inv (step (n, k, i) x) w' ∧ FrT W w')
    (hcf : ∀ (vs : Array Value) (W : World), (callFunc F vs).run Try.prog W = .ok (.enter F vs) W) (w : World) (h : Inv x0 w) :
    Calls Try.prog 73 #[.pointer (some ⟨p.gs, 0, none⟩), .func (.func F) #[] #[c1, c2]] w fun e w' => e = .returned (.tuple #[]) ∧ Inv ((visits p.reach p.ins p.bs).foldl (fun x v => step v x) x0) w' ∧ FrT w w' := by
  have HOK := Lib.hid ok
  have HES := Lib.hid hES
  have HBE := Lib.hid hB
  have HST := Lib.hid hstep
  have HIN := Lib.hid h
  have hnb := ok.nb
  have hcr := ok.crl
  have hci := ok.cil
  obtain ⟨st0, hst0⟩ := hES x0 w h
  have g0 := (blk_cell hst0.s 0).trans rfl
  have g1 := (blk_cell hst0.s 1).trans rfl
  have g2 := (blk_cell hst0.s 2).trans rfl
  have HR := Lib.hid (show Done step (visits p.reach p.ins p.bs) x0 x0 (visN p.reach p.ins 0 (p.bs.drop 0)) from ⟨[], rfl, rfl⟩)
  have HFT := Lib.hid (FrT.refl w)
  clear ok hES hB hstep h hst0
  have hu36 := Try.underlying36
  have hu46 := Try.underlying46
  have hu25 := Try.underlying25
  have hu23 := Try.underlying23
  have hu33 := Try.underlying33
  go_enter Try.func73, Try.ntmps73
  go_wp2_with fail
  clear g0 g1 g2
  go_loopw [15] (fun j wr => ∃ (q : Nat) (y : X), q ≤ p.bs.length ∧ j = .int .i64 q ∧ Inv y wr ∧ FrT w wr ∧ Done step (visits p.reach p.ins p.bs) x0 y (visN p.reach p.ins q (p.bs.drop q))) (fun j _ => p.bs.length - (intOf j).toNat)
  case atStart => exact ⟨0, x0, by omega, rfl, HIN.out, HFT.out, HR.out⟩
  case round =>
    clear HR HIN HFT
    obtain ⟨q, y, hq, rfl, hin, hft, hr2⟩ := hrel
    have HIN := Lib.hid hin
    have HFT := Lib.hid hft
    obtain ⟨st, hst⟩ := HES.out y wr hin
    have HE := Lib.hid hst
    clear hin hft hst
    obtain ⟨w1, rfl⟩ : ∃ w1 : World, w1 = wr := ⟨_, rfl⟩
    by_cases hlt : q < p.bs.length
    · rw [visN_at p.reach p.ins p.bs q hlt] at hr2
      have HR := Lib.hid hr2
      clear hr2
      obtain ⟨ad2, A3, c3, hA, b0, b1, b2, b3, b4, hc3, hC3⟩ := at_T36 HOK.out.h2 (q : Int) (by omega) (by omega)
      have b0 := pw_cell_below HE.out.b b0
      have b1 := pw_cell_below HE.out.b b1
      have b2 := pw_cell_below HE.out.b b2
      have b3 := pw_cell_below HE.out.b b3
      have b4 := pw_cell_below HE.out.b b4
      have HC3 := Lib.hid hC3
      have hfl := HC3.out.2.1
      rw [Int.toNat_natCast] at b0 b1 b2 b3 b4
      have g2 : w1.cell? ⟨p.gs, 2, none⟩ = some (.slice p.A2 p.bs.length p.c2) := (blk_cell HE.out.s 2).trans rfl
      clear hC3
      generalize rd_T36 p.bs (q : Int) = xb at b0 b1 b2 b3 b4 hc3 HC3 hfl HR
      obtain ⟨x0_, x1, x2, x3, x4⟩ := xb
      dsimp only at b0 b1 b2 b3 b4 hc3 HC3 hfl HR
      have HE2 := Lib.hid (HE.out.alloc (.cells #[.slice A3 x0_.length c3, .int .u8 x1, .int .i64 x2, .int .i64 x3, .int .i64 x4] 36))
      have HI2 := Lib.hid (HBE.out y w1 _ HIN.out (below_alloc (Below.refl _ _) (.cells #[.slice A3 x0_.length c3, .int .u8 x1, .int .i64 x2, .int .i64 x3, .int .i64 x4] 36)))
      have HF2 := Lib.hid (show FrT w (w1.alloc (.cells #[.slice A3 x0_.length c3, .int .u8 x1, .int .i64 x2, .int .i64 x3, .int .i64 x4] 36)) from HFT.out.trans (FrT.of_below (below_alloc (Below.refl _ _) _)))
      have g4 : (w1.alloc (.cells #[.slice A3 x0_.length c3, .int .u8 x1, .int .i64 x2, .int .i64 x3, .int .i64 x4] 36)).cell? ⟨p.gs, 4, none⟩ = some (.slice (some ⟨p.gi, 0, none⟩) p.bs.length p.ci) := (blk_cell HE2.out.s 4).trans rfl
      have g5 := HE2.out.insC HOK.out hlt
      generalize p.ins.getD q false = s0 at g5 HR
      go_wp2_with fail
      clear b0 b1 b2 b3 b4 g2 g4 g5 hA
      have HV0 := Lib.hid (show Done step (visits p.reach p.ins p.bs) x0 y (visB q (p.reach.getD q false) 0 s0 (x0_.drop 0) ++ visN p.reach p.ins (q + 1) (p.bs.drop (q + 1))) from HR.out)
      clear HE HIN HFT HR
      generalize w1.alloc (.cells #[.slice A3 x0_.length c3, .int .u8 x1, .int .i64 x2, .int .i64 x3, .int .i64 x4] 36) = w2 at *
      go_loopw [6, 30] (fun s j wr => ∃ (k : Nat) (sb : Bool) (z : X), k ≤ x0_.length ∧ j = .int .i64 k ∧ s = .bool sb ∧ Inv z wr ∧ FrT w wr ∧ Done step (visits p.reach p.ins p.bs) x0 z (visB q (p.reach.getD q false) k sb (x0_.drop k) ++ visN p.reach p.ins (q + 1) (p.bs.drop (q + 1)))) (fun _ j _ => x0_.length - (intOf j).toNat)
      case atStart => exact ⟨0, s0, y, by omega, rfl, rfl, HI2.out, HF2.out, HV0.out⟩
      case round =>
        clear HE2 HI2 HF2 HV0
        obtain ⟨k, sb, z, hk, rfl, rfl, hin, hft, hr2⟩ := hrel
        have HIN := Lib.hid hin
        have HFT := Lib.hid hft
        obtain ⟨st, hst⟩ := HES.out z wr hin
        have HE := Lib.hid hst
        clear hin hft hst
        by_cases hlk : k < x0_.length
        · rw [visB_at q (p.reach.getD q false) x0_ k sb hlk, List.append_assoc, show x0_.getD k z46 = rd_T46 x0_ (k : Int) from rfl] at hr2
          have HR := Lib.hid hr2
          clear hr2
          obtain ⟨ad3, hA3, d0, d1, d2, d3, d4, d5⟩ := at_T46 (Kd.C_below HC3.out HE.out.b) (k : Int) (by omega) (by omega)
          subst hA3
          rw [Int.toNat_natCast] at d0 d1 d2 d3 d4 d5
          generalize rd_T46 x0_ (k : Int) = ii at d0 d1 d2 d3 d4 d5 HR
          obtain ⟨f0, f1, f2, f3, f4, f5⟩ := ii
          dsimp only at d0 d1 d2 d3 d4 d5 HR
          have HE2 := Lib.hid (HE.out.alloc (.cells #[.int .u8 f0, .int .u8 f1, .int .i64 f2, .int .i64 f3, .int .i64 f4, .int .i64 f5] 46))
          have HI2 := Lib.hid (HBE.out z wr _ HIN.out (below_alloc (Below.refl _ _) (.cells #[.int .u8 f0, .int .u8 f1, .int .i64 f2, .int .i64 f3, .int .i64 f4, .int .i64 f5] 46)))
          have HF2 := Lib.hid (show FrT w (wr.alloc (.cells #[.int .u8 f0, .int .u8 f1, .int .i64 f2, .int .i64 f3, .int .i64 f4, .int .i64 f5] 46)) from HFT.out.trans (FrT.of_below (below_alloc (Below.refl _ _) _)))
          have H46 := Lib.hid (blk_new wr (.cells #[.int .u8 f0, .int .u8 f1, .int .i64 f2, .int .i64 f3, .int .i64 f4, .int .i64 f5] 46))
          have g3 : (wr.alloc (.cells #[.int .u8 f0, .int .u8 f1, .int .i64 f2, .int .i64 f3, .int .i64 f4, .int .i64 f5] 46)).cell? ⟨p.gs, 3, none⟩ = some (.slice (some ⟨p.gr, 0, none⟩) p.bs.length p.cr) := (blk_cell HE2.out.s 3).trans rfl
          have g6 := HE2.out.reachC HOK.out hlt
          have HSC := Lib.hid (show ((sb || f0 == 13) && p.reach.getD q false) = true → _ from fun hh => by
            have h := HR.out
            unfold visK at h
            dsimp only at h
            rw [if_pos hh] at h
            obtain ⟨pre, h1, h2⟩ := h
            exact HST.out pre _ q k ⟨f0, f1, f2, f3, f4, f5⟩ z _ h1 h2 HI2.out)
          dsimp only at HSC
          have HRN := Lib.hid (show Done step (visits p.reach p.ins p.bs) x0 (if ((sb || f0 == 13) && p.reach.getD q false) = true then step (q, k, ⟨f0, f1, f2, f3, f4, f5⟩) z else z) (visB q (p.reach.getD q false) (k + 1) (if f0 = 14 then false else sb || f0 == 13) (x0_.drop (k + 1)) ++ visN p.reach p.ins (q + 1) (p.bs.drop (q + 1))) from by
            have h := HR.out
            unfold visK at h
            dsimp only at h
            split
            · rename_i hh; rw [if_pos hh] at h; exact h.next
            · rename_i hh; rw [if_neg hh] at h; exact h)
          generalize p.reach.getD q false = rc at g6 HR HSC HRN
          clear HR
          have HK := Lib.hid (show ∀ S Z, (if f0 = 14 then false else sb || f0 == 13) = S → (if ((sb || f0 == 13) && rc) = true then step (q, k, ⟨f0, f1, f2, f3, f4, f5⟩) z else z) = Z →
              Done step (visits p.reach p.ins p.bs) x0 Z (visB q rc (k + 1) S (x0_.drop (k + 1)) ++ visN p.reach p.ins (q + 1) (p.bs.drop (q + 1))) from by
            rintro S Z rfl rfl
            exact HRN.out)
          clear HRN HE HIN HFT
          by_cases h13 : f0 = 13
          · subst h13
            cases rc with
            | true =>
              have HC := Lib.hid (HSC.out (by simp))
              go_wp2_with (refine HC.out.mono ?_; rintro e w5 ⟨rfl, hi5, hf5⟩; have HI5 := Lib.hid hi5; have HF5 := Lib.hid (HF2.out.trans hf5); have k46 := (blk_cell (hf5.2 _ _ _ H46.out (by decide) (by decide) (by decide)) 0).trans rfl; clear hi5 hf5)
              go_roundw
              case rel => exact ⟨k + 1, true, _, by omega, by go_num, rfl, HI5.out, HF5.out, HK.out true _ (by simp) (if_pos (by simp))⟩
              case measure => simp [intOf]; omega
            | false =>
              go_wp2_with fail
              go_roundw
              case rel => exact ⟨k + 1, true, _, by omega, by go_num, rfl, HI2.out, HF2.out, HK.out true _ (by simp) (if_neg (by simp))⟩
              case measure => simp [intOf]; omega
          · have b13 : (f0 == 13) = false := beq_eq_false_iff_ne.2 h13
            have B13 := Lib.hid b13
            clear h13
            by_cases h14 : f0 = 14
            · subst h14
              cases sb with
              | true =>
                cases rc with
                | true =>
                  have HC := Lib.hid (HSC.out (by simp))
                  go_wp2_with (refine HC.out.mono ?_; rintro e w5 ⟨rfl, hi5, hf5⟩; have HI5 := Lib.hid hi5; have HF5 := Lib.hid (HF2.out.trans hf5); have k46 := (blk_cell (hf5.2 _ _ _ H46.out (by decide) (by decide) (by decide)) 0).trans rfl; clear hi5 hf5)
                  go_roundw
                  case rel => exact ⟨k + 1, false, _, by omega, by go_num, rfl, HI5.out, HF5.out, HK.out false _ (by simp) (if_pos (by simp))⟩
                  case measure => simp [intOf]; omega
                | false =>
                  go_wp2_with fail
                  go_roundw
                  case rel => exact ⟨k + 1, false, _, by omega, by go_num, rfl, HI2.out, HF2.out, HK.out false _ (by simp) (if_neg (by simp))⟩
                  case measure => simp [intOf]; omega
              | false =>
                go_wp2_with fail
                go_roundw
                case rel => exact ⟨k + 1, false, _, by omega, by go_num, rfl, HI2.out, HF2.out, HK.out false _ (by simp) (if_neg (by simp))⟩
                case measure => simp [intOf]; omega
            · have b14 : (f0 == 14) = false := beq_eq_false_iff_ne.2 h14
              have H14 := Lib.hid h14
              clear h14
              cases sb with
              | true =>
                cases rc with
                | true =>
                  have HC := Lib.hid (HSC.out (by simp))
                  go_wp2_with (refine HC.out.mono ?_; rintro e w5 ⟨rfl, hi5, hf5⟩; have HI5 := Lib.hid hi5; have HF5 := Lib.hid (HF2.out.trans hf5); have k46 := (blk_cell (hf5.2 _ _ _ H46.out (by decide) (by decide) (by decide)) 0).trans rfl; clear hi5 hf5)
                  go_roundw
                  case rel => exact ⟨k + 1, true, _, by omega, by go_num, rfl, HI5.out, HF5.out, HK.out true _ (by rw [if_neg H14.out]; simp) (if_pos (by simp))⟩
                  case measure => simp [intOf]; omega
                | false =>
                  go_wp2_with fail
                  go_roundw
                  case rel => exact ⟨k + 1, true, _, by omega, by go_num, rfl, HI2.out, HF2.out, HK.out true _ (by rw [if_neg H14.out]; simp) (if_neg (by simp))⟩
                  case measure => simp [intOf]; omega
              | false =>
                go_wp2_with fail
                go_roundw
                case rel => exact ⟨k + 1, false, _, by omega, by go_num, rfl, HI2.out, HF2.out, HK.out false _ (by rw [if_neg H14.out, B13.out]; rfl) (if_neg (by rw [B13.out]; simp))⟩
                case measure => simp [intOf]; omega
        · rw [List.drop_of_length_le (by omega)] at hr2
          have HR := Lib.hid (show Done step (visits p.reach p.ins p.bs) x0 z (visN p.reach p.ins (q + 1) (p.bs.drop (q + 1))) from hr2)
          clear hr2
          go_wp2_with fail
          go_roundw
          case rel => exact ⟨q + 1, z, by omega, by go_num, HIN.out, HFT.out, HR.out⟩
          case measure => simp [intOf]; omega
    · rw [List.drop_of_length_le (by omega)] at hr2
      have HR := Lib.hid hr2.ends
      clear hr2
      go_wp2_with fail
      refine bodyPost_end (results_none rfl _ _ _) rfl ⟨rfl, by rw [HR.out]; exact HIN.out, HFT.out⟩
end Go.Proofs.Ytjmeignhhheckaa.H
namespace Go.Proofs.Ytjmeignhhheckaa.H
open Go.RowKit Go.Maps Go.Proofs.YtjmeignhhheckaaW.PrintWords Go.Proofs.YtjmeignhhheckaaW.PrintLast Go.Proofs.Ytjmeignhhheckaa.Q
set_option maxRecDepth 100000
theorem cf_of {f : Nat} {fn : Func} (h : Try.prog.funcs[f]? = some fn) (hn : (fn.name == "runtime.NumGoroutine") = false) (hb : fn.body.isNone = false) (vs : Array Value) (W : World) : (callFunc f vs).run Try.prog W = .ok (.enter f vs) W := by
  have h1 : fn.name ≠ "runtime.NumGoroutine" := by simpa using hn
  have h2 : fn.body ≠ none := fun e => by rw [e] at hb; cases hb
  simp [go_sem, callFunc, h, h1, h2]
theorem cf74 (vs : Array Value) (W : World) : (callFunc 74 vs).run Try.prog W = .ok (.enter 74 vs) W := cf_of Try.func74 (by kernel_rfl) (by kernel_rfl) vs W
theorem cf128 (vs : Array Value) (W : World) : (callFunc 128 vs).run Try.prog W = .ok (.enter 128 vs) W := cf_of Try.func128 (by kernel_rfl) (by kernel_rfl) vs W
structure AG (p : EP) (g7 g3 g4 : Nat) (dv : Value) (x : ESt × Bool) (W : World) : Prop where
  es : ES p x.1 W
  d : W.heap[g3]? = some (.cells #[dv] 160 (0, 0))
  m : W.heap[g4]? = some (.cells #[.bool x.2] 4 (0, 0))
  n : g4 ∉ p.rb ∧ g4 ≠ p.gg ∧ g4 ≠ p.gr ∧ g4 ≠ p.gi
  b : p.w0.heap.size ≤ g4
  p7 : W.heap[g7]? = some (.cells #[.pointer (some ⟨p.gs, 0, none⟩)] 121 (0, 0))
theorem AG.below {p : EP} {g7 g3 g4 : Nat} {dv : Value} {x : ESt × Bool} {W W' : World} (h : AG p g7 g3 g4 dv x W) (hb : Below W.heap.size W W') : AG p g7 g3 g4 dv x W' :=
  ⟨h.es.below hb, blk_below h.d hb, blk_below h.m hb, h.n, h.b, blk_below h.p7 hb⟩
theorem ES.put1 {p : EP} {st : ESt} {W : World} (h : ES p st W) {g4 i : Nat} {v : Value} {C : Array Value} (hm : W.heap[g4]? = some (.cells C 4 (0, 0))) (hn : g4 ∉ p.rb ∧ g4 ≠ p.gg ∧ g4 ≠ p.gr ∧ g4 ≠ p.gi) (hb : p.w0.heap.size ≤ g4) : ES p st (W.setCell ⟨g4, i, none⟩ v) := by
  refine ⟨h.b.setCell hb _, (set_frame W _ i v (blk_ne h.s hm (by decide))).trans h.s, (set_frame W _ i v (Ne.symm hn.2.2.1)).trans h.r, (set_frame W _ i v (Ne.symm hn.2.2.2)).trans h.i,
    fun hh => (set_frame W _ i v (blk_ne (h.n hh) hm (by decide))).trans (h.n hh), fun j hj => (set_frame W _ i v (show p.rb.getD j 0 ≠ g4 from fun e => hn.1 (by rw [← e]; exact mem_rb hj))).trans (h.rows j hj), (set_frame W _ i v (Ne.symm hn.2.1)).trans h.g, h.ok⟩
theorem AG.set {p : EP} {g7 g3 g4 : Nat} {dv : Value} {x : ESt × Bool} {W : World} (h : AG p g7 g3 g4 dv x W) (b : Bool) : AG p g7 g3 g4 dv (x.1, b) (W.setCell ⟨g4, 0, none⟩ (.bool b)) :=
  ⟨h.es.put1 h.m h.n h.b, (set_frame W _ 0 _ (blk_ne h.d h.m (by decide))).trans h.d, blk_put h.m 0 _ rfl, h.n, h.b, (set_frame W _ 0 _ (blk_ne h.p7 h.m (by decide))).trans h.p7⟩
theorem frT_set {W : World} {g4 i : Nat} {v : Value} {C : Array Value} (hm : W.heap[g4]? = some (.cells C 4 (0, 0))) : FrT W (W.setCell ⟨g4, i, none⟩ v) :=
  ⟨by simp, fun k C' t hb h4 _ _ => (set_frame W _ i v (blk_ne hb hm h4)).trans hb⟩
/-- the inner function of again, over a step -/
theorem in128 (p : EP) (g7 g3 g4 : Nat) (dv : Value) (D : Nat) (bound caps : Array Value) (hdv : dv = .func (.func D) bound caps) (hcf : ∀ (vs : Array Value) (W : World), (callFunc D vs).run Try.prog W = .ok (.enter D vs) W) (n k : Nat) (i : S46) (st : ESt) (mb : Bool) (q : ESt × Bool) (W : World) (h : AG p g7 g3 g4 dv (st, mb) W)
    (hd : ∀ W', Below W.heap.size W W' → Calls Try.prog D (bound ++ (#[.agg #[.int .i64 n, .int .i64 k], .agg #[.int .u8 i.f0, .int .u8 i.f1, .int .i64 i.f2, .int .i64 i.f3, .int .i64 i.f4, .int .i64 i.f5]] ++ caps)) W' fun e w' => e = .returned (.bool q.2) ∧ ES p q.1 w' ∧ Fr p W' w') :
    Calls Try.prog 128 #[.agg #[.int .i64 n, .int .i64 k], .agg #[.int .u8 i.f0, .int .u8 i.f1, .int .i64 i.f2, .int .i64 i.f3, .int .i64 i.f4, .int .i64 i.f5], .pointer (some ⟨g3, 0, none⟩), .pointer (some ⟨g4, 0, none⟩)] W fun e w' => e = .returned (.tuple #[]) ∧ AG p g7 g3 g4 dv (q.1, q.2 || mb) w' ∧ FrT W w' := by
  subst hdv
  have HB := Lib.hid (show Below W.heap.size W ((W.alloc (.cells #[.int .i64 n, .int .i64 k] 41)).alloc (.cells #[.int .u8 i.f0, .int .u8 i.f1, .int .i64 i.f2, .int .i64 i.f3, .int .i64 i.f4, .int .i64 i.f5] 46)) from below_alloc (below_alloc (Below.refl _ _) _) _)
  have HA := Lib.hid (h.below HB.out)
  have HD := Lib.hid (hd _ HB.out)
  have g0 := (blk_cell HA.out.d 0).trans rfl
  have g1 := (blk_cell HA.out.m 0).trans rfl
  clear h hd
  have hu46 := Try.underlying46
  have hu41 := Try.underlying41
  obtain ⟨f0, f1, f2, f3, f4, f5⟩ := i
  dsimp only at *
  obtain ⟨s2, m2⟩ := q
  dsimp only at *
  have HK := Lib.hid (show ∀ w', ES p s2 w' → Fr p _ w' → AG p g7 g3 g4 (.func (.func D) bound caps) (s2, mb) w' ∧ FrT W w' from fun w' he hf =>
    ⟨⟨he, hf.blk HA.out.d (HA.out.es.away HA.out.d (by decide)), hf.blk HA.out.m ⟨HA.out.n.1, HA.out.n.2.1⟩, HA.out.n, HA.out.b, hf.blk HA.out.p7 (HA.out.es.away HA.out.p7 (by decide))⟩, (FrT.of_below HB.out).trans (FrT.of_fr HA.out.es hf)⟩)
  cases m2 with
  | true =>
    go_enter Try.func128, Try.ntmps128
    go_wp2_with (refine HD.out.mono ?_; rintro e w1 ⟨rfl, he, hf⟩; have HA1 := Lib.hid (HK.out w1 he hf).1; have HF1 := Lib.hid (HK.out w1 he hf).2; have HA2 := Lib.hid (HA1.out.set true); have f1 := blk_frozen HA1.out.m 0; have c1 := (blk_cell HA1.out.m 0).trans rfl; have HF2 := Lib.hid (HF1.out.trans (frT_set (i := 0) (v := .bool true) HA1.out.m)); clear he hf g0 g1)
    refine bodyPost_end (results_none rfl _ _ _) rfl ⟨rfl, HA2.out, HF2.out⟩
  | false =>
    go_enter Try.func128, Try.ntmps128
    go_wp2_with (refine HD.out.mono ?_; rintro e w1 ⟨rfl, he, hf⟩; have HA1 := Lib.hid (HK.out w1 he hf).1; have HF1 := Lib.hid (HK.out w1 he hf).2; have HA2 := Lib.hid (HA1.out.set mb); have f1 := blk_frozen HA1.out.m 0; have c1 := (blk_cell HA1.out.m 0).trans rfl; have HF2 := Lib.hid (HF1.out.trans (frT_set (i := 0) (v := .bool mb) HA1.out.m)); clear he hf g0 g1)
    refine bodyPost_end (results_none rfl _ _ _) rfl ⟨rfl, HA2.out, HF2.out⟩
end Go.Proofs.Ytjmeignhhheckaa.H
namespace Go.Proofs.Ytjmeignhhheckaa.H
open Go.RowKit Go.Maps Go.Proofs.YtjmeignhhheckaaW.PrintWords Go.Proofs.YtjmeignhhheckaaW.PrintLast Go.Proofs.Ytjmeignhhheckaa.Q
set_option maxRecDepth 100000
abbrev Stp := Nat → Nat → S46 → ESt → ESt × Bool
def stepD (f : Stp) (v : Vis) (x : ESt × Bool) : ESt × Bool := ((f v.1 v.2.1 v.2.2 x.1).1, (f v.1 v.2.1 v.2.2 x.1).2 || x.2)
theorem fold_D (f : Stp) : ∀ (vis : List Vis) (st : ESt) (m : Bool), vis.foldl (fun x v => stepD f v x) (st, m) = foldD f vis st m
  | [], _, _ => rfl
  | (n, k, i) :: r, st, m => by
    rw [List.foldl_cons, foldD]
    exact fold_D f r _ _
theorem foldD_falls {R u : Nat} {f : Stp} {st0 : ESt} : ∀ (vis : List Vis), (∀ v ∈ vis, ∀ st, EOk R u st → EOk R u (f v.1 v.2.1 v.2.2 st).1 ∧ Falls st (f v.1 v.2.1 v.2.2 st)) → ∀ (st : ESt) (m : Bool), EOk R u st → FallsM st0 st m → EOk R u (foldD f vis st m).1 ∧ FallsM st0 (foldD f vis st m).1 (foldD f vis st m).2
  | [], _, st, m, h1, h2 => ⟨h1, h2⟩
  | (n, k, i) :: r, hf, st, m, h1, h2 => by
    rw [foldD]
    have := hf (n, k, i) (by simp) st h1
    exact foldD_falls r (fun v hv => hf v (by simp [hv])) _ _ this.1 (h2.step this.2)
theorem ES.AGnew {p : EP} {dv : Value} {st : ESt} {W : World} (h : ES p st W) {g7 g3 : Nat} (h7 : W.heap[g7]? = some (.cells #[.pointer (some ⟨p.gs, 0, none⟩)] 121 (0, 0))) (hd : W.heap[g3]? = some (.cells #[dv] 160 (0, 0))) (b : Bool) : AG p g7 g3 W.heap.size dv (st, b) (W.alloc (.cells #[.bool b] 4)) := by
  have hn := h.newb (g := W.heap.size) (Nat.le_refl _)
  have hr := blk_lt h.r
  have hi := blk_lt h.i
  exact ⟨h.alloc _, blk_alloc hd _, blk_new W _, ⟨hn.1, hn.2, by omega, by omega⟩, h.b.size, blk_alloc h7 _⟩
set_option maxHeartbeats 1000000 in
theorem again_any (p : EP) (ok : EPok p) (D : Nat) (bnd caps : Array Value) (f : Stp) (hf : ∀ v ∈ visits p.reach p.ins p.bs, ∀ st, EOk p.rb.length p.u st → EOk p.rb.length p.u (f v.1 v.2.1 v.2.2 st).1 ∧ Falls st (f v.1 v.2.1 v.2.2 st))
    (g7 : Nat) (hin : ∀ (g3 g4 n k : Nat) (i : S46) (st : ESt) (mb : Bool) (W : World), (n, k, i) ∈ visits p.reach p.ins p.bs → AG p g7 g3 g4 (.func (.func D) bnd caps) (st, mb) W →
      Calls Try.prog 128 #[.agg #[.int .i64 n, .int .i64 k], .agg #[.int .u8 i.f0, .int .u8 i.f1, .int .i64 i.f2, .int .i64 i.f3, .int .i64 i.f4, .int .i64 i.f5], .pointer (some ⟨g3, 0, none⟩), .pointer (some ⟨g4, 0, none⟩)] W fun e w' => e = .returned (.tuple #[]) ∧ AG p g7 g3 g4 (.func (.func D) bnd caps) ((f n k i st).1, (f n k i st).2 || mb) w' ∧ FrT W w')
    (st : ESt) (w : World) (h : ES p st w) (h7 : w.heap[g7]? = some (.cells #[.pointer (some ⟨p.gs, 0, none⟩)] 121 (0, 0))) :
    Calls Try.prog 101 #[.pointer (some ⟨p.gs, 0, none⟩), .func (.func D) bnd caps] w fun e w' => e = .returned (.tuple #[]) ∧ ES p (againGo f (visits p.reach p.ins p.bs) (cntE st + 1) st) w' ∧ FrT w w' := by
  have HOK := Lib.hid ok
  have HF := Lib.hid hf
  have HIN := Lib.hid hin
  have HB := Lib.hid (below_alloc (Below.refl w.heap.size w) (.cells #[.func (.func D) bnd caps] 160))
  have HA := Lib.hid (show AG p g7 w.heap.size (w.heap.size + 1) (.func (.func D) bnd caps) (st, true) ((w.alloc (.cells #[.func (.func D) bnd caps] 160)).alloc (.cells #[.bool true] 4)) from by
    have := (h.below HB.out).AGnew (blk_below h7 HB.out) (blk_new w (.cells #[.func (.func D) bnd caps] 160)) true
    rwa [World.size_alloc] at this)
  have HT := Lib.hid (show FrT w ((w.alloc (.cells #[.func (.func D) bnd caps] 160)).alloc (.cells #[.bool true] 4)) from FrT.of_below (below_alloc HB.out _))
  have HR := Lib.hid (show againGo f (visits p.reach p.ins p.bs) (cntE st + 1) st = againGo f (visits p.reach p.ins p.bs) (cntE st + 1) st from rfl)
  obtain ⟨k0, hk0⟩ : ∃ k0, k0 = cntE st + 1 := ⟨_, rfl⟩
  rw [← hk0] at HR ⊢
  have HK0 := Lib.hid (Nat.le_of_eq hk0.symm)
  generalize hres : againGo f (visits p.reach p.ins p.bs) k0 st = res at *
  have HRES := Lib.hid hres
  clear ok hf hin h hk0 hres HR h7
  have hu160 := Try.underlying160
  go_enter Try.func101, Try.ntmps101
  go_wp2_with fail
  go_loopg [4] k0 (fun kq v4 wr => ∃ (g4 : Nat) (x : ESt) (b : Bool), v4 = .pointer (some ⟨g4, 0, none⟩) ∧ AG p g7 w.heap.size g4 (.func (.func D) bnd caps) (x, b) wr ∧ FrT w wr ∧ (b = true → againGo f (visits p.reach p.ins p.bs) kq x = res ∧ cntE x + 1 ≤ kq) ∧ (b = false → x = res))
  case atStart => exact ⟨w.heap.size + 1, st, true, rfl, HA.out, HT.out, fun _ => ⟨HRES.out, HK0.out⟩, fun hh => by cases hh⟩
  case round =>
    clear HA HT HRES HK0
    obtain ⟨g4, x, b, rfl, ha, ht, h1, h2⟩ := hrel
    have HA := Lib.hid ha
    have HT := Lib.hid ht
    have g0 := (blk_cell ha.m 0).trans rfl
    have f0 := blk_frozen ha.m 0
    clear ha ht
    cases b with
    | true =>
      have H1 := Lib.hid (h1 rfl)
      clear h1 h2
      have HA1 := Lib.hid (HA.out.set false)
      have HT1 := Lib.hid (HT.out.trans (frT_set (i := 0) (v := .bool false) HA.out.m))
      have HEA := Lib.hid (each_any p HOK.out 128 (.pointer (some ⟨w.heap.size, 0, none⟩)) (.pointer (some ⟨g4, 0, none⟩)) (AG p g7 w.heap.size g4 (.func (.func D) bnd caps)) (stepD f) (fun x W hx => ⟨x.1, hx.es⟩) (fun x W W' hx hb => hx.below hb) (x, false) (fun pre post n k i x W hp _ hx => HIN.out w.heap.size g4 n k i x.1 x.2 W (by rw [← hp]; simp) hx) cf128 _ HA1.out)
      rw [fold_D] at HEA
      have HFA := Lib.hid (foldD_falls (st0 := x) (visits p.reach p.ins p.bs) HF.out x false HA.out.es.ok (Falls.refl x))
      have HGO := Lib.hid (show ∃ k1, (if (foldD f (visits p.reach p.ins p.bs) x false).2 then againGo f (visits p.reach p.ins p.bs) k1 (foldD f (visits p.reach p.ins p.bs) x false).1 else (foldD f (visits p.reach p.ins p.bs) x false).1) = res ∧ cntE x ≤ k1 ∧ k1 < gk from by
        have h := H1.out
        obtain ⟨k1, rfl⟩ : ∃ k1, gk = k1 + 1 := ⟨gk - 1, by omega⟩
        exact ⟨k1, h.1, by omega, by omega⟩)
      generalize foldD f (visits p.reach p.ins p.bs) x false = q at *
      obtain ⟨q1, q2⟩ := q
      dsimp only at HEA HFA HGO
      have f1 := blk_frozen HA1.out.m 0
      clear HA H1 HIN
      go_wp2_with (go_at_call 73; go_loud (refine HEA.out.mono ?_; rintro e w5 ⟨rfl, ha5, hf5⟩; have HA5 := Lib.hid ha5; have HT5 := Lib.hid (HT1.out.trans hf5); have g5 := (blk_cell ha5.m 0).trans rfl; have HA6 := Lib.hid (ha5.es.AGnew ha5.p7 ha5.d q2); have HT6 := Lib.hid ((HT1.out.trans hf5).trans (FrT.of_below (below_alloc (Below.refl _ _) (.cells #[.bool q2] 4)))); clear ha5 hf5 g0 f0 f1))
      obtain ⟨k1, hk1, hk2, hk3⟩ := HGO.out
      go_roundg k1
      case measure => exact hk3
      case rel =>
        refine ⟨w5.heap.size, q1, q2, rfl, HA6.out, HT6.out, fun hh => ?_, fun hh => ?_⟩
        · rw [if_pos hh] at hk1
          exact ⟨hk1, by have := HFA.out.2.1 hh; omega⟩
        · rw [if_neg (by rw [hh]; decide)] at hk1
          exact hk1
    | false =>
      have H2 := Lib.hid (h2 rfl)
      clear h1 h2
      go_wp2_with fail
      refine bodyPost_end (results_none rfl _ _ _) rfl ⟨rfl, by rw [← H2.out]; exact HA.out.es, HT.out⟩
end Go.Proofs.Ytjmeignhhheckaa.H
namespace Go.Proofs.Ytjmeignhhheckaa.H
open Go.RowKit Go.Maps Go.Proofs.YtjmeignhhheckaaW.PrintWords Go.Proofs.YtjmeignhhheckaaW.PrintLast Go.Proofs.Ytjmeignhhheckaa.Q
set_option maxRecDepth 100000
theorem C_one25 {W : World} {B : Nat} {A0 : Option Addr} {c0 : Nat} {l0 : List Bool} {a1 : Int} {A2 : Option Addr} {c2 : Nat} {l2 : List S36} (hb : W.heap[B]? = some (.cells #[.slice A0 l0.length c0, .int .i64 a1, .slice A2 l2.length c2] 25 (0, 0)))
    (h0 : Kd.C Kd.bool W A0 l0.length l0) (hc0 : l0.length ≤ c0) (h2 : Kd.C k36 W A2 l2.length l2) (hc2 : l2.length ≤ c2) : Kd.C k25 W (some ⟨B, 0, none⟩) [(⟨l0, a1, l2⟩ : S25)].length [(⟨l0, a1, l2⟩ : S25)] := by
  refine ⟨rfl, by simp, fun _ => ⟨_, rfl, fun j p hp => ?_⟩⟩
  have hj : j = 0 := by
    have := (List.getElem?_eq_some_iff.1 hp).1
    simpa using this
  subst hj
  obtain rfl : (⟨l0, a1, l2⟩ : S25) = p := by simpa using hp
  refine ⟨[.slice A0 l0.length c0, .int .i64 a1, .slice A2 l2.length c2], rfl, k25_mk W ⟨l0, a1, l2⟩ hc0 h0 hc2 h2, fun i u hu => ?_⟩
  have e : (⟨B, 0, none⟩ : Addr).add (0 * k25.sz + i) = ⟨B, i, none⟩ := by
    rw [Nat.zero_mul, Nat.zero_add]; simp [Addr.add]; exact fun h => h.symm
  rw [e, blk_cell hb, ← hu]
  simp
theorem check66 {W : World} {B : Nat} {A0 : Option Addr} {c0 : Nat} {l0 : List Bool} {a1 : Int} {A2 : Option Addr} {c2 : Nat} {l2 : List S36} (hb : W.heap[B]? = some (.cells #[.slice A0 l0.length c0, .int .i64 a1, .slice A2 l2.length c2] 25 (0, 0)))
    (h0 : Kd.C Kd.bool W A0 l0.length l0) (hc0 : l0.length ≤ c0) (h2 : Kd.C k36 W A2 l2.length l2) (hc2 : l2.length ≤ c2) (hs : smallG l2) :
    Calls Try.prog 66 #[.agg #[.int .i64 65536, .slice (some ⟨B, 0, none⟩) 1 1]] W fun e w' => ∃ x y z : Int, e = .returned (.tuple #[.int .i64 x, .agg #[.int .i64 y, .int .i64 z], .int .i64 (checkS 65536 [⟨l0, a1, l2⟩]).2.2.2]) ∧ Below W.heap.size W w' := by
  have := ir_Check.calls 65536 (some ⟨B, 0, none⟩) 1 [(⟨l0, a1, l2⟩ : S25)] (checkS 65536 [⟨l0, a1, l2⟩]).1 (checkS 65536 [⟨l0, a1, l2⟩]).2.1 (checkS 65536 [⟨l0, a1, l2⟩]).2.2.1 (checkS 65536 [⟨l0, a1, l2⟩]).2.2.2 W (C_one25 hb h0 hc0 h2 hc2) (Nat.le_refl _) (by unfold ir_Check.f; rw [if_pos (by intro g hg; rw [List.mem_singleton] at hg; rw [hg]; exact hs)])
  exact this.mono fun e w' ⟨he, hb⟩ => ⟨_, _, _, he, hb⟩
/-- escape.found, where the graph is refused -/
theorem found_no (A0 A2 : Option Addr) (c0 c2 : Nat) (a1 : Int) (l0 : List Bool) (bs : List S36) (w : World) (h0 : Kd.C Kd.bool w A0 l0.length l0) (hc0 : l0.length ≤ c0) (hC : Kd.C k36 w A2 bs.length bs) (hc : bs.length ≤ c2) (hs : smallG bs) (hE : ¬ gE l0 a1 bs = 0) :
    Calls Try.prog 72 #[.agg #[.slice A0 l0.length c0, .int .i64 a1, .slice A2 bs.length c2]] w fun e w' => e = .returned (.tuple #[.pointer none, .int .i64 14]) ∧ Below w.heap.size w w' := by
  have HC0 := Lib.hid h0
  have HL0 := Lib.hid hc0
  have HC := Lib.hid hC
  have hne : ((checkS 65536 [⟨l0, a1, bs⟩]).2.2.2 != 0) = true := by
    rw [bne_iff_ne]
    intro h
    exact hE (by unfold gE; rw [if_pos h])
  clear h0 hc0 hC hE
  have hu25 := Try.underlying25
  have hu54 := Try.underlying54
  have hu41 := Try.underlying41
  have HB := Lib.hid (show Below w.heap.size w ((w.alloc (.cells #[.slice A0 l0.length c0, .int .i64 a1, .slice A2 bs.length c2] 25)).alloc (.cells #[.slice A0 l0.length c0, .int .i64 a1, .slice A2 bs.length c2] 25)) from below_alloc (below_alloc (Below.refl _ _) _) _)
  have HK := Lib.hid (show ((w.alloc (.cells #[.slice A0 l0.length c0, .int .i64 a1, .slice A2 bs.length c2] 25)).alloc (.cells #[.slice A0 l0.length c0, .int .i64 a1, .slice A2 bs.length c2] 25)).heap[w.heap.size + 1]? = some (.cells #[.slice A0 l0.length c0, .int .i64 a1, .slice A2 bs.length c2] 25 (0, 0)) from by
    have := blk_new (w.alloc (.cells #[.slice A0 l0.length c0, .int .i64 a1, .slice A2 bs.length c2] 25)) (.cells #[.slice A0 l0.length c0, .int .i64 a1, .slice A2 bs.length c2] 25)
    rwa [World.size_alloc] at this)
  generalize hck : (checkS 65536 [⟨l0, a1, bs⟩]).2.2.2 = ck at hne
  have HCK := Lib.hid hck
  clear hck
  go_enter Try.func72, Try.ntmps72
  go_wp2_with (go_at_call 66; go_loud (refine (check66 HK.out (Kd.C_below HC0.out HB.out) HL0.out (Kd.C_below HC.out HB.out) hc hs).mono ?_; rintro e w1 ⟨x, y, z, rfl, hb1⟩; rw [HCK.out]; have HB1 := Lib.hid (below_step HB.out hb1); clear hb1))
  go_ret2
  exact ⟨rfl, below_alloc HB1.out _⟩
end Go.Proofs.Ytjmeignhhheckaa.H
namespace Go.Proofs.Ytjmeignhhheckaa.H
open Go.RowKit Go.Maps Go.Proofs.YtjmeignhhheckaaW.PrintWords Go.Proofs.YtjmeignhhheckaaW.PrintLast Go.Proofs.Ytjmeignhhheckaa.Q
set_option maxRecDepth 100000
theorem scan_ins {xs : List Bool} {sites words : Int} : ∀ (l : List S46) (k : Nat) (met m2 : List Int), insScan xs sites words l k met = .inr m2 → ∀ x ∈ l, ∃ m, insB xs sites words m x = true := by
  intro l
  induction l with
  | nil => intro k met m2 _ x hx; cases hx
  | cons i l ih =>
    intro k met m2 h x hx
    simp only [insScan] at h
    by_cases hi : insB xs sites words met i = true
    · rw [if_pos hi] at h
      rcases List.mem_cons.1 hx with rfl | hx
      · exact ⟨_, hi⟩
      · exact ih _ _ _ h x hx
    · rw [if_neg hi] at h
      cases h
theorem blk_ins {xs : List Bool} {sites words : Int} {nb : Nat} : ∀ (bs : List S36) (n : Nat) (met : List Int), blkScan xs sites words nb bs n met = none → ∀ b ∈ bs, ∀ x ∈ b.f0, ∃ m, insB xs sites words m x = true := by
  intro bs
  induction bs with
  | nil => intro n met _ b hb; cases hb
  | cons x bs ih =>
    intro n met h b hb
    cases hi : insScan xs sites words x.f0 0 met with
    | inl k => rw [blk_inl hi] at h; cases h
    | inr m2 =>
      rw [blk_last hi] at h
      cases hl : lastB xs nb x with
      | false => rw [hl] at h; simp at h
      | true =>
        rw [hl] at h
        rcases List.mem_cons.1 hb with rfl | hb
        · exact scan_ins _ _ _ _ hi
        · exact ih _ _ (by simpa using h) b hb
theorem gE_ins {xs : List Bool} {sites : Int} {bs : List S36} (h : gE xs sites bs = 0) : ∀ b ∈ bs, ∀ x ∈ b.f0, ∃ m, insB xs sites 65536 m x = true := by
  unfold gE at h
  by_cases hc : (checkS 65536 [⟨xs, sites, bs⟩]).2.2.2 = 0
  · unfold checkS at hc
    split at hc
    · cases hc
    split at hc
    · cases hc
    unfold goS at hc
    dsimp only at hc
    by_cases h0 : countsS xs sites bs = 0
    · rw [if_neg (by rw [h0]; decide)] at hc
      by_cases hf : (faultS xs sites 65536 bs).2.2 = true
      · rw [if_pos hf] at hc; cases hc
      · have hb : blkScan xs sites 65536 bs.length bs 0 [] = none := by
          cases hq : blkScan xs sites 65536 bs.length bs 0 [] with
          | none => rfl
          | some p => rw [fault_some hq] at hf; exact absurd rfl hf
        exact blk_ins bs 0 [] hb
    · rw [if_pos h0] at hc
      exact absurd hc h0
  · rw [if_neg hc] at h; cases h
theorem ins_rng {xs : List Bool} {sites words : Int} {m : List Int} {x : S46} (h : insB xs sites words m x = true) :
    ((x.f0 = 7 ∨ x.f0 = 2 ∨ x.f0 = 8 ∨ x.f0 = 10 ∨ x.f0 = 6 ∨ x.f0 = 9 ∨ x.f0 = 11) → 0 ≤ x.f2 ∧ x.f2 < xs.length) ∧ ((x.f0 = 2 ∨ isMem x = true) → 0 ≤ x.f3 ∧ x.f3 < xs.length) ∧ (x.f0 = 7 → 0 ≤ x.f4 ∧ x.f4 < sites) := by
  unfold insB at h
  by_cases h00 : (emptyB (shp x.f0).1 || !zerosB x) = true
  · rw [if_pos h00] at h; cases h
  rw [if_neg h00] at h
  clear h00
  have hmm : isMem x = true → x.f0 = 8 ∨ x.f0 = 9 ∨ x.f0 = 10 ∨ x.f0 = 11 := fun hm => by
    unfold isMem at hm
    simp only [Bool.or_eq_true, beq_iff_eq] at hm
    omega
  by_cases k2 : x.f0 = 2
  · simp [k2] at h
    refine ⟨fun _ => ?_, fun _ => ?_, fun h7 => by omega⟩
    · rcases h with h | h
      · exact isNum_in h.1
      · exact isRef_in h.1
    · rcases h with h | h
      · exact isNum_in h.2
      · exact isRef_in h.2
  by_cases k6 : x.f0 = 6
  · simp [k6] at h
    exact ⟨fun _ => isRef_in h.1.1, fun hh => by rcases hh with hh | hh
                                                 · omega
                                                 · have := hmm hh; omega, fun h7 => by omega⟩
  by_cases k7 : x.f0 = 7
  · simp [k7] at h
    exact ⟨fun _ => isRef_in h.1.1.1.1.1, fun hh => by rcases hh with hh | hh
                                                       · omega
                                                       · have := hmm hh; omega, fun _ => ⟨h.1.1.2, h.1.2⟩⟩
  by_cases kb : x.f0 = 8 ∨ x.f0 = 9 ∨ x.f0 = 10 ∨ x.f0 = 11
  · rw [if_neg (by omega), if_neg k2, if_neg (by omega), if_neg (by omega), if_neg (by omega), if_neg k6, if_neg k7, if_neg (by omega), if_neg (by omega), if_neg (by omega)] at h
    simp only [Bool.and_eq_true] at h
    exact ⟨fun _ => inN_iff h.1.1.1.1, fun _ => isRef_in h.1.1.1.2, fun h7 => absurd h7 k7⟩
  · exact ⟨fun hh => by omega, fun hh => by rcases hh with hh | hh
                                            · omega
                                            · exact absurd (hmm hh) kb, fun h7 => absurd h7 k7⟩
def inR (n : Nat) (s : List Nat) : Prop := ∀ q, hasW s q = true → q < n
theorem inR_step {n : Nat} {x : S46} (hx : regOk x) (hr : regIn n x) {s : List Nat} (hs : okW s) (h : inR n s) : inR n (stepW x s) := fun q hq => by
  rw [(step_has x hx s hs).2 q, Bool.or_eq_true] at hq
  rcases hq with hq | hq
  · have := hr.2 _ (of_decide_eq_true hq)
    omega
  · rw [Bool.and_eq_true] at hq
    exact h q hq.1
theorem inR_foldr {n : Nat} : ∀ (l : List S46), (∀ x ∈ l, regOk x ∧ regIn n x) → ∀ (s : List Nat), okW s → inR n s → inR n (l.foldr stepW s)
  | [], _, _, _, h => h
  | x :: l, hl, s, hs, h => by
    rw [List.foldr_cons]
    exact inR_step (hl x (by simp)).1 (hl x (by simp)).2 (foldr_ok l (fun y hy => (hl y (by simp [hy])).1) s hs) (inR_foldr l (fun y hy => hl y (by simp [hy])) s hs h)
theorem inR_ahead {xs : List Bool} {bs : List S36} (G : GOk xs bs) {b : S36} (hb : b ∈ bs) {ins : List (List Nat)} (hi : insOk bs.length ins) (h : ∀ t, t < bs.length → inR xs.length (ins.getD t [])) (k : Nat) : inR xs.length (aheadW b k ins) := by
  have hB := G.blk b hb
  unfold aheadW
  refine inR_foldr _ (fun x hx => ⟨hB.rg x (List.mem_of_mem_drop hx), G.regs b hb x (List.mem_of_mem_drop hx)⟩) _ (end_has hB hi).1 (fun q hq => ?_)
  rw [(end_has hB hi).2 q, Bool.or_eq_true] at hq
  rcases hq with hq | hq
  · obtain ⟨t, ht, hq⟩ := List.any_eq_true.1 hq
    have := hB.nx t ht
    exact h t.toNat (by omega) q hq
  · rw [Bool.and_eq_true] at hq
    have := G.br b hb (of_decide_eq_true hq.1)
    have := of_decide_eq_true hq.2
    omega
theorem inR_sets {xs : List Bool} {bs : List S36} (G : GOk xs bs) {frm : List (List Int)} (hf : FrmOk bs frm) : ∀ (k : Nat) (ins r : List (List Nat)) (st : List Int), SetsInv bs frm ins st → (∀ t, t < bs.length → inR xs.length (ins.getD t [])) → setsGo bs frm k ins st = some r → ∀ t, t < bs.length → inR xs.length (r.getD t []) := by
  intro k
  induction k with
  | zero => intro ins r st _ _ h; cases h
  | succ k ih =>
    intro ins r st hI hR h
    cases st with
    | nil => obtain rfl := Option.some.inj h; exact hR
    | cons b st =>
      rw [setsGo] at h
      by_cases he : aheadW (blkAt bs b) 0 ins = ins.getD b.toNat []
      · rw [if_pos he] at h
        exact ih ins r st (hI.same he) hR h
      · rw [if_neg he] at h
        have hr := hI.rng b (by simp)
        have hbb : blkAt bs (b.toNat : Int) = blkAt bs b := by congr 1; omega
        refine ih _ r _ (hI.more G.blk hf).1 (fun t ht => ?_) h
        rw [getD_set_list (by rw [hI.ok.len]; omega)]
        split
        · rw [← hbb]
          exact inR_ahead G (blkAt_mem bs _ (by omega)) hI.ok hR 0
        · exact hR t ht
theorem inR_zero (n : Nat) : inR n zeroW := fun q hq => by rw [hasW_zero] at hq; cases hq
theorem inR_setsS {xs : List Bool} {bs : List S36} (G : GOk xs bs) : ∀ t, t < bs.length → inR xs.length ((setsS bs).getD t []) := by
  refine inR_sets G (frmOf_ok G.blk) _ _ _ _ (setsInv_start G.blk) (fun t ht => ?_) (setsS_spec G.blk).1
  rw [List.getD_eq_getElem?_getD, List.getElem?_replicate, if_pos ht]
  exact inR_zero _
theorem at_rng {xs : List Bool} {sites : Int} {bs : List S36} (hE : gE xs sites bs = 0) (n k : Nat) : (∀ x ∈ (atS xs sites bs n k).1, 0 ≤ x ∧ x.toNat < xs.length) ∧ (atS xs sites bs n k).1.length ≤ 5000 := by
  have G := gE_gok hE
  unfold atS
  rw [if_neg (fun h => h hE)]
  cases ht : thereB bs n k with
  | false => exact ⟨(fun x hx => by simp at hx), by simp⟩
  | true =>
    rw [if_pos rfl]
    have hn : n < bs.length := by
      unfold thereB at ht
      have := of_decide_eq_true ht
      omega
    have hb : rd_T36 bs (n : Int) ∈ bs := blkAt_mem bs n hn
    have hsp := setsS_spec G.blk
    have ho := ahead_ok (G.blk _ hb) hsp.2.1 ((k : Int)).toNat
    have hr := inR_ahead G hb hsp.2.1 (inR_setsS G) ((k : Int)).toNat
    refine ⟨fun x hx => ?_, ?_⟩
    · unfold listS at hx
      obtain ⟨q, hq, rfl⟩ := List.mem_map.1 hx
      have := hr q ((mem_lst _ ho q).1 hq)
      exact ⟨by omega, by rw [Int.toNat_natCast]; exact this⟩
    · show (listS _).length ≤ 5000
      unfold listS lstTo
      rw [List.length_map]
      exact Nat.le_trans (List.length_filter_le _ _) (by rw [List.length_range]; decide)
/-- the instructions of a graph that is no fault -/
theorem insOk_of (p : EP) (hE : gE p.l0 p.u p.bs = 0) (hl : p.rb.length = p.l0.length) (n k : Nat) (i : S46) (hm : (n, k, i) ∈ visits p.reach p.ins p.bs) : InsOk p n k i := by
  obtain ⟨_, x, h1, h2⟩ := visN_mem p.bs 0 (n, k, i) hm
  have hx : x ∈ p.bs := List.mem_of_getElem? h1
  have hi : i ∈ x.f0 := List.mem_of_getElem? h2
  obtain ⟨m, hm2⟩ := gE_ins hE x hx i hi
  obtain ⟨r1, r2, r3⟩ := ins_rng hm2
  obtain ⟨a1, a2⟩ := at_rng hE n k
  refine ⟨?_, ?_, fun h7 => ⟨(r3 h7).1, by have := (r3 h7).2; omega⟩, ?_, a2⟩
  · rw [hl]; exact r1
  · rw [hl]; exact r2
  · rw [hl]; exact a1
end Go.Proofs.Ytjmeignhhheckaa.H
namespace Go.Proofs.Ytjmeignhhheckaa.H
open Go.RowKit Go.Maps Go.Proofs.YtjmeignhhheckaaW.PrintWords Go.Proofs.YtjmeignhhheckaaW.PrintLast Go.Proofs.Ytjmeignhhheckaa.Q
set_option maxRecDepth 100000
theorem flows_ok (p : EP) {n k : Nat} {i : S46} (hi : InsOk p n k i) {st : ESt} (h : EOk p.rb.length p.u st) : EOk p.rb.length p.u (flowsS p.l0 p.u p.bs n k i st).1 ∧ Falls st (flowsS p.l0 p.u p.bs n k i st) := by
  unfold flowsS
  by_cases h7 : i.f0 = 7
  · rw [if_pos h7]
    have ha := hi.a (.inl h7)
    have hc := hi.c h7
    exact ⟨h.add _ _, add_falls h (by omega) (by omega)⟩
  rw [if_neg h7]
  by_cases h2 : i.f0 = 2
  · rw [if_pos h2]
    have ha := hi.a (.inr (.inl h2))
    exact move_ok (st0 := st) _ _ (by omega) _ _ _ (fun s hs => by simpa using hs) h (Falls.refl st)
  rw [if_neg h2]
  by_cases h8 : i.f0 = 8 ∨ i.f0 = 10 ∨ i.f0 = 6
  · rw [if_pos h8]
    have ha := hi.a (by rcases h8 with h | h | h <;> simp [h])
    exact ⟨h.add _ _, add_falls h (by omega) (by omega)⟩
  rw [if_neg h8]
  by_cases h13 : i.f0 = 13
  · rw [if_pos h13]
    exact unk_ok (st0 := st) _ _ _ (fun s hs => (hi.l s hs).2) h (Falls.refl st)
  rw [if_neg h13]
  exact ⟨h, Falls.refl st⟩
/-- flows, by again -/
theorem again_flows (p : EP) (ok : EPok p) (hs : smallG p.bs) (hI : ∀ n k i, (n, k, i) ∈ visits p.reach p.ins p.bs → InsOk p n k i) (g7 : Nat) (st : ESt) (w : World) (h : ES p st w) (h7 : w.heap[g7]? = some (.cells #[.pointer (some ⟨p.gs, 0, none⟩)] 121 (0, 0))) :
    Calls Try.prog 101 #[.pointer (some ⟨p.gs, 0, none⟩), .func (.func 102) #[.pointer (some ⟨p.gs, 0, none⟩)] #[]] w fun e w' => e = .returned (.tuple #[]) ∧ ES p (againGo (flowsS p.l0 p.u p.bs) (visits p.reach p.ins p.bs) (cntE st + 1) st) w' ∧ FrT w w' :=
  again_any p ok 102 #[.pointer (some ⟨p.gs, 0, none⟩)] #[] (flowsS p.l0 p.u p.bs) (fun v hv st he => flows_ok p (hI v.1 v.2.1 v.2.2 hv) he) g7
    (fun g3 g4 n k i st mb W hm ha => in128 p g7 g3 g4 _ 102 #[.pointer (some ⟨p.gs, 0, none⟩)] #[] rfl (cf_of Try.func102 (by kernel_rfl) (by kernel_rfl)) n k i st mb (flowsS p.l0 p.u p.bs n k i st) W ha
      (fun W' hb => flows_any p ok hs st n k i (hI n k i hm) W' (ha.es.below hb))) st w h h7
theorem again_drop (p : EP) (ok : EPok p) (hI : ∀ n k i, (n, k, i) ∈ visits p.reach p.ins p.bs → InsOk p n k i) (g7 : Nat) (st : ESt) (w : World) (h : ES p st w) (h7 : w.heap[g7]? = some (.cells #[.pointer (some ⟨p.gs, 0, none⟩)] 121 (0, 0))) :
    Calls Try.prog 101 #[.pointer (some ⟨p.gs, 0, none⟩), .func (.func 103) #[] #[.pointer (some ⟨g7, 0, none⟩)]] w fun e w' => e = .returned (.tuple #[]) ∧ ES p (againGo (fun _ _ => dropS p.u) (visits p.reach p.ins p.bs) (cntE st + 1) st) w' ∧ FrT w w' :=
  again_any p ok 103 #[] #[.pointer (some ⟨g7, 0, none⟩)] (fun _ _ => dropS p.u) (fun v hv st he => drop_ok he v.2.2) g7
    (fun g3 g4 n k i st mb W hm ha => in128 p g7 g3 g4 _ 103 #[] #[.pointer (some ⟨g7, 0, none⟩)] rfl (cf_of Try.func103 (by kernel_rfl) (by kernel_rfl)) n k i st mb (dropS p.u i st) W ha
      (fun W' hb => drop_any p ok st n k i (hI n k i hm) g7 W' (ha.es.below hb) (blk_below ha.p7 hb))) st w h h7
end Go.Proofs.Ytjmeignhhheckaa.H
namespace Go.Proofs.Ytjmeignhhheckaa.H
open Go.RowKit Go.Maps Go.Proofs.YtjmeignhhheckaaW.PrintWords Go.Proofs.YtjmeignhhheckaaW.PrintLast Go.Proofs.Ytjmeignhhheckaa.Q
set_option maxRecDepth 100000
theorem make22n (n : Nat) (hn : n ≤ 100000) (W : World) : (Instr.makeSlice 22 (.int .i64 n) (.int .i64 n)).run Try.prog W = .ok (.slice (some ⟨W.heap.size, 0, none⟩) n n) (W.alloc (.cells (Array.replicate n (.bool false)) 4)) := by
  have := print_make_of (P := Try.prog) 22 4 (.bool false) 1 Try.underlying22 info4 rfl (by decide) n (by omega) W
  rw [this]
  congr 3
  apply Array.ext'
  simp only [madeCells, Array.toList_map, Array.toList_range, Array.toList_replicate]
  refine List.ext_getElem (by simp) (fun i h1 h2 => ?_)
  simp [Nat.mod_one]
/-- escape.found's memory, while it is laid -/
structure FS (w : World) (G : Array Value) (g7 gs gg : Nat) (S : Array Value) (u : Nat) (wr : World) : Prop where
  b : Below w.heap.size w wr
  bx : wr.heap[w.heap.size]? = some (.cells G 25 (0, 0))
  p7 : wr.heap[g7]? = some (.cells #[.pointer (some ⟨gs, 0, none⟩)] 121 (0, 0))
  s : wr.heap[gs]? = some (.cells S 128 (0, 0))
  g : BB wr gg (List.replicate u false)
  l7 : w.heap.size < g7
  ls : w.heap.size < gs
  lg : w.heap.size < gg
theorem FS.below {w : World} {G : Array Value} {g7 gs gg : Nat} {S : Array Value} {u : Nat} {wr wr' : World} (h : FS w G g7 gs gg S u wr) (hb : Below wr.heap.size wr wr') : FS w G g7 gs gg S u wr' :=
  ⟨below_step h.b hb, blk_below h.bx hb, blk_below h.p7 hb, blk_below h.s hb, blk_below h.g hb, h.l7, h.ls, h.lg⟩
theorem FS.set {w : World} {G : Array Value} {g7 gs gg : Nat} {S : Array Value} {u : Nat} {wr : World} (h : FS w G g7 gs gg S u wr) (i : Nat) (v : Value) : FS w G g7 gs gg (S.setIfInBounds i v) u (wr.setCell ⟨gs, i, none⟩ v) :=
  ⟨h.b.setCell (Nat.le_of_lt h.ls) _, (set_frame wr gs i v (blk_ne h.bx h.s (by decide))).trans h.bx, (set_frame wr gs i v (blk_ne h.p7 h.s (by decide))).trans h.p7, blk_set h.s i v, (set_frame wr gs i v (blk_ne h.g h.s (by decide))).trans h.g, h.l7, h.ls, h.lg⟩
theorem R_block {W : World} {base : Nat} {ok : Nat → Prop} {g n cap : Nat} {xs : List Bool} (h : Kd.R Kd.bool 4 W base ok (.slice (some ⟨g, 0, none⟩) n cap) xs) (hp : 0 < xs.length) :
    ∃ C : Array Value, W.heap[g]? = some (.cells C 4 (0, 0)) ∧ xs.length ≤ cap ∧ ∀ j, j < xs.length → C[j]? = some (.bool (xs.getD j false)) := by
  have ho := Kd.own_of_R h
  rcases ho.2 with ⟨h0, _⟩ | ⟨g2, cap2, cur, hv, hg, hb, hn, hcap, hsz, htk⟩
  · omega
  · injection hv with e1 e2 e3
    injection e1 with e1
    injection e1 with e1
    subst e1 e3
    refine ⟨cur, hb, hn, fun j hj => ?_⟩
    rw [Nat.mul_one] at htk
    have h1 : (List.take xs.length cur.toList)[j]? = (encs Value.bool xs)[j]? := by rw [htk]
    rw [List.getElem?_take_of_lt hj] at h1
    have h2 : cur[j]? = (encs Value.bool xs)[j]? := by rw [← h1]; simp
    rw [h2]
    unfold encs
    simp [hj]
theorem three (W : World) (o1 o2 o3 : Obj) : (((W.alloc o1).alloc o2).alloc o3).drew.heap[W.heap.size]? = some o1 ∧ (((W.alloc o1).alloc o2).alloc o3).drew.heap[W.heap.size + 1]? = some o2 ∧ (((W.alloc o1).alloc o2).alloc o3).drew.heap[W.heap.size + 1 + 1]? = some o3 ∧ Below W.heap.size W (((W.alloc o1).alloc o2).alloc o3).drew := by
  have e2 := blk_alloc (blk_new (W.alloc o1) o2) o3
  have e3 := blk_new ((W.alloc o1).alloc o2) o3
  simp only [World.size_alloc] at e2 e3
  exact ⟨blk_alloc (blk_alloc (blk_new W o1) o2) o3, e2, e3, below_drew1 (below_alloc (below_alloc (below_alloc (Below.refl _ _) _) _) _)⟩
theorem bb_rep {W : World} {g u : Nat} (h : W.heap[g]? = some (.cells (Array.replicate u (.bool false)) 4 (0, 0))) : BB W g (List.replicate u false) := by unfold BB; rw [rep_eq]; exact h
theorem info22 : (Try.prog.info? 22).map (fun i => (i.zero, i.size, i.bytes)) = some (some (.slice none 0 0), 1, 24) := by kernel_rfl
theorem own_ne {W : World} {base n : Nat} {v : Value} {xs : List Value} (h : W.ownsRow base 22 1 v n xs) {k t : Nat} {C : Array Value} (hb : W.heap[k]? = some (.cells C t (0, 0))) (ht : t ≠ 22) : some k ≠ v.ownBlock := by
  intro e
  obtain ⟨cs, hcs⟩ := own_typed h k e.symm
  exact blk_ne hb hcs ht rfl
/-- while the rows are laid -/
structure NF (w : World) (G : Array Value) (g7 gs gg : Nat) (S : Value → Array Value) (u gr gi : Nat) (CR CI : Array Value) (B8 : Nat) (rb : List Nat) (nv : Value) (wr : World) : Prop where
  fs : FS w G g7 gs gg (S nv) u wr
  r : wr.heap[gr]? = some (.cells CR 4 (0, 0))
  i : wr.heap[gi]? = some (.cells CI 4 (0, 0))
  n : wr.ownsRow B8 22 1 nv rb.length (rb.map (rowV u))
  rows : ∀ g ∈ rb, BB wr g (List.replicate (u + 1) false)
  nd : rb.Nodup
  lb : ∀ g ∈ rb, B8 ≤ g
  sz : B8 ≤ wr.heap.size
theorem NF.step {w : World} {G : Array Value} {g7 gs gg : Nat} {S : Value → Array Value} {u gr gi : Nat} {CR CI : Array Value} {B8 : Nat} {rb : List Nat} {nv : Value} {wr w1 : World} {g cap : Nat} (h : NF w G g7 gs gg S u gr gi CR CI B8 rb nv wr) (hB : w.heap.size ≤ B8) (hS : ∀ v v', (S v).setIfInBounds 5 v' = S v')
    (hown : w1.ownsRow B8 22 1 (.slice (some ⟨g, 0, none⟩) (rb.length + 1) cap) (rb.length + 1) (rb.map (rowV u) ++ [rowV u wr.heap.size]))
    (hg : ((wr.alloc (.cells (Array.replicate (u + 1) (.bool false)) 4)).alloc (.cells #[rowV u wr.heap.size] 22)).drew.grownBy w1 nv.ownBlock) :
    NF w G g7 gs gg S u gr gi CR CI B8 (rb ++ [wr.heap.size]) (.slice (some ⟨g, 0, none⟩) (rb.length + 1) cap) (w1.setCell ⟨gs, 5, none⟩ (.slice (some ⟨g, 0, none⟩) (rb.length + 1) cap)) := by
  have hb : Below wr.heap.size wr ((wr.alloc (.cells (Array.replicate (u + 1) (.bool false)) 4)).alloc (.cells #[rowV u wr.heap.size] 22)).drew := below_drew1 (below_alloc (below_alloc (Below.refl _ _) _) _)
  have hnew : BB ((wr.alloc (.cells (Array.replicate (u + 1) (.bool false)) 4)).alloc (.cells #[rowV u wr.heap.size] 22)).drew wr.heap.size (List.replicate (u + 1) false) := bb_rep (blk_drew (blk_alloc (blk_new wr _) _))
  have hn2 := own_move h.n (w1 := ((wr.alloc (.cells (Array.replicate (u + 1) (.bool false)) 4)).alloc (.cells #[rowV u wr.heap.size] 22)).drew) (fun k hk => by
    obtain ⟨cs, hcs⟩ := own_typed h.n k hk
    exact hb.block k (blk_lt hcs))
  have hf2 := h.fs.below hb
  have hbase : ∀ k, nv.ownBlock = some k → w.heap.size ≤ k := fun k hk => by
    rcases h.n.2 with ⟨h0, _⟩ | ⟨g', c', cur, hv, hg', _⟩
    · rw [h0] at hk; cases hk
    · rw [hv] at hk
      have : g' = k := by simpa [Value.ownBlock] using hk
      omega
  have hf3 : FS w G g7 gs gg (S nv) u w1 := ⟨hf2.b.grown hg hf2.b.size hbase, blk_grown hf2.bx hg (own_ne hn2 hf2.bx (by decide)), blk_grown hf2.p7 hg (own_ne hn2 hf2.p7 (by decide)), blk_grown hf2.s hg (own_ne hn2 hf2.s (by decide)), blk_grown hf2.g hg (own_ne hn2 hf2.g (by decide)), hf2.l7, hf2.ls, hf2.lg⟩
  have hr3 := blk_grown (blk_below h.r hb) hg (own_ne hn2 (blk_below h.r hb) (by decide))
  have hi3 := blk_grown (blk_below h.i hb) hg (own_ne hn2 (blk_below h.i hb) (by decide))
  have hs4 := hf3.set 5 (.slice (some ⟨g, 0, none⟩) (rb.length + 1) cap)
  rw [hS] at hs4
  have hrow : ∀ x ∈ rb ++ [wr.heap.size], BB w1 x (List.replicate (u + 1) false) := fun x hx => by
    rcases List.mem_append.1 hx with hx | hx
    · have := blk_below (h.rows x hx) hb
      exact blk_grown this hg (own_ne hn2 this (by decide))
    · rw [List.mem_singleton] at hx
      subst hx
      exact blk_grown hnew hg (own_ne hn2 hnew (by decide))
  refine ⟨hs4, (set_frame w1 gs 5 _ (blk_ne hr3 hf3.s (by decide))).trans hr3, (set_frame w1 gs 5 _ (blk_ne hi3 hf3.s (by decide))).trans hi3, ?_, fun x hx => (set_frame w1 gs 5 _ (blk_ne (hrow x hx) hf3.s (by decide))).trans (hrow x hx), ?_, fun x hx => ?_, ?_⟩
  · rw [List.length_append, List.map_append]
    refine own_move hown (fun k hk => ?_)
    obtain ⟨cs, hcs⟩ := own_typed hown k hk
    exact set_frame w1 gs 5 _ (fun e => own_ne hown hf3.s (by decide) (by rw [hk, e]))
  · refine List.nodup_append.2 ⟨h.nd, by simp, fun a ha b hb e => ?_⟩
    rw [List.mem_singleton] at hb
    have := blk_lt (h.rows a ha)
    omega
  · rcases List.mem_append.1 hx with hx | hx
    · exact h.lb x hx
    · rw [List.mem_singleton] at hx
      have := h.sz
      omega
  · have h1 := hg.size
    have h2 := hb.size
    have h3 := h.sz
    simp only [World.size_setCell]
    omega
theorem NF.grow {w : World} {G : Array Value} {g7 gs gg : Nat} {S : Value → Array Value} {u gr gi : Nat} {CR CI : Array Value} {B8 : Nat} {rb : List Nat} {nv : Value} {wr w1 : World} (h : NF w G g7 gs gg S u gr gi CR CI B8 rb nv wr) (hB : w.heap.size ≤ B8)
    (hg : ((wr.alloc (.cells (Array.replicate (u + 1) (.bool false)) 4)).alloc (.cells #[rowV u wr.heap.size] 22)).drew.grownBy w1 nv.ownBlock) : FS w G g7 gs gg (S nv) u w1 := by
  have hb : Below wr.heap.size wr ((wr.alloc (.cells (Array.replicate (u + 1) (.bool false)) 4)).alloc (.cells #[rowV u wr.heap.size] 22)).drew := below_drew1 (below_alloc (below_alloc (Below.refl _ _) _) _)
  have hn2 := own_move h.n (w1 := ((wr.alloc (.cells (Array.replicate (u + 1) (.bool false)) 4)).alloc (.cells #[rowV u wr.heap.size] 22)).drew) (fun k hk => by
    obtain ⟨cs, hcs⟩ := own_typed h.n k hk
    exact hb.block k (blk_lt hcs))
  have hf2 := h.fs.below hb
  have hbase : ∀ k, nv.ownBlock = some k → w.heap.size ≤ k := fun k hk => by
    rcases h.n.2 with ⟨h0, _⟩ | ⟨g', c', cur, hv, hg', _⟩
    · rw [h0] at hk; cases hk
    · rw [hv] at hk
      have : g' = k := by simpa [Value.ownBlock] using hk
      omega
  exact ⟨hf2.b.grown hg hf2.b.size hbase, blk_grown hf2.bx hg (own_ne hn2 hf2.bx (by decide)), blk_grown hf2.p7 hg (own_ne hn2 hf2.p7 (by decide)), blk_grown hf2.s hg (own_ne hn2 hf2.s (by decide)), blk_grown hf2.g hg (own_ne hn2 hf2.g (by decide)), hf2.l7, hf2.ls, hf2.lg⟩
theorem news22 (wr : World) (u : Nat) : ((wr.alloc (.cells (Array.replicate (u + 1) (.bool false)) 4)).alloc (.cells #[rowV u wr.heap.size] 22)).drew.heap[wr.heap.size + 1]? = some (.cells #[rowV u wr.heap.size] 22 (0, 0)) := by
  have := blk_new (wr.alloc (.cells (Array.replicate (u + 1) (.bool false)) 4)) (.cells #[rowV u wr.heap.size] 22)
  rw [World.size_alloc] at this
  exact this
theorem NF.names {w : World} {G : Array Value} {g7 gs gg : Nat} {S : Value → Array Value} {u gr gi : Nat} {CR CI : Array Value} {B8 : Nat} {rb : List Nat} {nv : Value} {wr : World} (h : NF w G g7 gs gg S u gr gi CR CI B8 rb nv wr) :
    ∃ (gn cn : Nat) (CN : Array Value), rb.length ≤ cn ∧ (rb.length ≠ 0 → nv = .slice (some ⟨gn, 0, none⟩) rb.length cn) ∧ (rb.length ≠ 0 → wr.heap[gn]? = some (.cells CN 22 (0, 0))) ∧ (∀ j, j < rb.length → CN[j]? = some (rowV u (rb.getD j 0))) ∧ ∃ A c, nv = .slice A rb.length c := by
  rcases h.n.2 with ⟨h0, h1⟩ | ⟨g, cap, cur, hv, hb, hblk, hn, hcap, hsz, htk⟩
  · exact ⟨0, 0, #[], by omega, fun e => absurd h1 e, fun e => absurd h1 e, fun j hj => by omega, none, 0, by rw [h0, h1]⟩
  · refine ⟨g, cap, cur, hn, fun _ => hv, fun _ => hblk, fun j hj => ?_, _, _, hv⟩
    rw [Nat.mul_one] at htk
    have h1 : (List.take rb.length cur.toList)[j]? = (rb.map (rowV u))[j]? := by rw [htk]
    rw [List.getElem?_take_of_lt hj] at h1
    have h2 : cur[j]? = (rb.map (rowV u))[j]? := by rw [← h1]; simp
    rw [h2]
    simp [hj]
/-- what escape.found lays: told for the callers -/
structure FoundE (w : World) (A0 : Option Addr) (c0 : Nat) (l0 : List Bool) (u : Nat) (A2 : Option Addr) (c2 : Nat) (bs : List S36) (p : EP) : Prop where
  ok : EPok p
  w0 : p.w0 = w
  e0 : p.l0 = l0
  eu : p.u = u
  eb : p.bs = bs
  er : p.reach = reachS bs
  ei : p.ins = (sidesOf bs).1
  rl : p.rb.length = l0.length
theorem NF.es {w : World} {A0 : Option Addr} {c0 : Nat} {l0 : List Bool} {u : Nat} {A2 : Option Addr} {c2 : Nat} {bs : List S36} {g7 gs gg gr cr gi ci : Nat} {CR CI : Array Value} {B8 : Nat} {rb : List Nat} {nv : Value} {wr : World}
    (h : NF w #[.slice A0 l0.length c0, .int .i64 u, .slice A2 bs.length c2] g7 gs gg (fun v => #[.slice A0 l0.length c0, .int .i64 u, .slice A2 bs.length c2, .slice (some ⟨gr, 0, none⟩) bs.length cr, .slice (some ⟨gi, 0, none⟩) bs.length ci, v, .slice (some ⟨gg, 0, none⟩) u u]) u gr gi CR CI B8 rb nv wr)
    (h0 : Kd.C Kd.bool w A0 l0.length l0) (hc0 : l0.length ≤ c0) (hC : Kd.C k36 w A2 bs.length bs) (hc : bs.length ≤ c2) (hu : u ≤ 8192) (hnb : bs.length ≤ 4096) (hxl : l0.length ≤ 1024) (hcr : bs.length ≤ cr) (hci : bs.length ≤ ci)
    (hCR : ∀ j, j < bs.length → CR[j]? = some (.bool ((reachS bs).getD j false))) (hCI : ∀ j, j < bs.length → CI[j]? = some (.bool ((sidesOf bs).1.getD j false)))
    (hB : w.heap.size ≤ B8) (hg : gg < B8) (hgr : gg < gr) (hgi : gg < gi) (hr : gr < B8) (hi : gi < B8) (hl : rb.length = l0.length) :
    ∃ p : EP, FoundE w A0 c0 l0 u A2 c2 bs p ∧ p.gs = gs ∧ ES p (found0 l0.length u) wr := by
  obtain ⟨gn, cn, CN, n1, n2, n3, n4, n5⟩ := h.names
  refine ⟨⟨w, A0, c0, l0, u, A2, c2, bs, gs, gr, cr, gi, ci, gg, gn, cn, CR, CI, CN, rb, reachS bs, (sidesOf bs).1, nv⟩, ⟨?_, rfl, rfl, rfl, rfl, rfl, rfl, hl⟩, rfl, ?_⟩
  · exact ⟨h0, hc0, hC, hc, Nat.le_trans hnb (by omega), hu, by show rb.length ≤ 1024; omega, hcr, hci, n1, n2, n5, hCR, hCI, n4, (by show gr ≠ gg; omega), (by show gi ≠ gg; omega), fun hm => (by have := h.lb gr hm; omega), fun hm => (by have := h.lb gi hm; omega), fun hm => (by have := h.lb gg hm; omega), h.nd, fun g hm => Nat.le_trans hB (h.lb g hm), Nat.le_of_lt h.fs.lg⟩
  · refine ⟨h.fs.b, h.fs.s, h.r, h.i, n3, fun j hj => ?_, h.fs.g, ?_, fun j hj => ?_, ?_⟩
    · have hj2 : j < l0.length := by rw [← hl]; exact hj
      have e : (found0 l0.length u).names.getD j [] = List.replicate (u + 1) false := by
        show (List.replicate l0.length (List.replicate (u + 1) false)).getD j [] = _
        rw [List.getD_eq_getElem?_getD, List.getElem?_replicate, if_pos hj2]; rfl
      rw [e]
      exact h.rows _ (mem_rb hj)
    · show (List.replicate l0.length (List.replicate (u + 1) false)).length = rb.length
      rw [List.length_replicate, hl]
    · have hj2 : j < l0.length := by rw [← hl]; exact hj
      show ((List.replicate l0.length (List.replicate (u + 1) false)).getD j []).length = u + 1
      rw [List.getD_eq_getElem?_getD, List.getElem?_replicate, if_pos hj2]; simp
    · show (List.replicate u false).length = u
      rw [List.length_replicate]
set_option maxHeartbeats 4000000 in
theorem found_yes (A0 A2 : Option Addr) (c0 c2 : Nat) (u : Nat) (l0 : List Bool) (bs : List S36) (w : World) (h0 : Kd.C Kd.bool w A0 l0.length l0) (hc0 : l0.length ≤ c0) (hC : Kd.C k36 w A2 bs.length bs) (hc : bs.length ≤ c2) (hs : smallG bs) (hE : gE l0 u bs = 0) (hu : u ≤ 8192) :
    Calls Try.prog 72 #[.agg #[.slice A0 l0.length c0, .int .i64 u, .slice A2 bs.length c2]] w fun e w' => ∃ p : EP, FoundE w A0 c0 l0 u A2 c2 bs p ∧ e = .returned (.tuple #[.pointer (some ⟨p.gs, 0, none⟩), .int .i64 0]) ∧ ES p (foundS l0 u bs) w' := by
  have HC0 := Lib.hid h0
  have HL0 := Lib.hid hc0
  have HC := Lib.hid hC
  have hne : ((checkS 65536 [⟨l0, u, bs⟩]).2.2.2 != 0) = false := by
    unfold gE at hE
    by_cases h : (checkS 65536 [⟨l0, u, bs⟩]).2.2.2 = 0
    · rw [h]; rfl
    · rw [if_neg h] at hE; cases hE
  clear h0 hc0 hC
  have HE := Lib.hid hE
  clear hE
  have hu25 := Try.underlying25
  have hu54 := Try.underlying54
  have hu41 := Try.underlying41
  have hu128 := Try.underlying128
  have HB := Lib.hid (show Below w.heap.size w ((w.alloc (.cells #[.slice A0 l0.length c0, .int .i64 u, .slice A2 bs.length c2] 25)).alloc (.cells #[.slice A0 l0.length c0, .int .i64 u, .slice A2 bs.length c2] 25)) from below_alloc (below_alloc (Below.refl _ _) _) _)
  have HX := Lib.hid (show ((w.alloc (.cells #[.slice A0 l0.length c0, .int .i64 u, .slice A2 bs.length c2] 25)).alloc (.cells #[.slice A0 l0.length c0, .int .i64 u, .slice A2 bs.length c2] 25)).heap[w.heap.size]? = some (.cells #[.slice A0 l0.length c0, .int .i64 u, .slice A2 bs.length c2] 25 (0, 0)) from blk_alloc (blk_new w _) _)
  have HK := Lib.hid (show ((w.alloc (.cells #[.slice A0 l0.length c0, .int .i64 u, .slice A2 bs.length c2] 25)).alloc (.cells #[.slice A0 l0.length c0, .int .i64 u, .slice A2 bs.length c2] 25)).heap[w.heap.size + 1]? = some (.cells #[.slice A0 l0.length c0, .int .i64 u, .slice A2 bs.length c2] 25 (0, 0)) from by
    have := blk_new (w.alloc (.cells #[.slice A0 l0.length c0, .int .i64 u, .slice A2 bs.length c2] 25)) (.cells #[.slice A0 l0.length c0, .int .i64 u, .slice A2 bs.length c2] 25)
    rwa [World.size_alloc] at this)
  generalize hck : (checkS 65536 [⟨l0, u, bs⟩]).2.2.2 = ck at hne
  have HCK := Lib.hid hck
  clear hck
  have HMK := Lib.hid (make22n u (by omega))
  have HMK1 := Lib.hid (make22n (u + 1) (by omega))
  obtain ⟨i0, hi0, hz0, hz1, hz2⟩ := info_parts info22
  have HI0 := Lib.hid hi0
  have HZ0 := Lib.hid hz0
  have HZ1 := Lib.hid hz1
  have HZ2 := Lib.hid hz2
  clear hi0 hz0 hz1 hz2
  have hu22 := Try.underlying22
  have hu126 := Try.underlying126
  go_enter Try.func72, Try.ntmps72
  go_upto_region 4 with (go_at_call 66; go_loud (refine (check66 HK.out (Kd.C_below HC0.out HB.out) HL0.out (Kd.C_below HC.out HB.out) hc hs).mono ?_; rintro e w1 ⟨x, y, z, rfl, hb1⟩; rw [HCK.out]; have HB1 := Lib.hid (show Below w.heap.size w (w1.alloc (.cells #[.int .i64 y, .int .i64 z] 41)) from below_alloc (below_step HB.out hb1) _); have HX1 := Lib.hid (show (w1.alloc (.cells #[.int .i64 y, .int .i64 z] 41)).heap[w.heap.size]? = _ from blk_alloc (blk_below HX.out hb1) _); clear hb1))
  generalize w1.alloc (.cells #[.int .i64 y, .int .i64 z] 41) = w2 at *
  clear HB HX HK HCK hne
  go_cut [7] (fun v7 wc => ∃ g7 gs gg : Nat, v7 = .pointer (some ⟨g7, 0, none⟩) ∧ FS w #[.slice A0 l0.length c0, .int .i64 u, .slice A2 bs.length c2] g7 gs gg #[.slice A0 l0.length c0, .int .i64 u, .slice A2 bs.length c2, .slice none 0 0, .slice none 0 0, .slice none 0 0, .slice (some ⟨gg, 0, none⟩) u u] u wc)
  case first J1 K1 hJ1 hK1 =>
    have hmk := HMK.out
    have g0 : w2.cell? ⟨w.heap.size, 0, none⟩ = some (.slice A0 l0.length c0) := (blk_cell HX1.out 0).trans rfl
    have g1 : w2.cell? ⟨w.heap.size, 1, none⟩ = some (.int .i64 u) := (blk_cell HX1.out 1).trans rfl
    have g2 : w2.cell? ⟨w.heap.size, 2, none⟩ = some (.slice A2 bs.length c2) := (blk_cell HX1.out 2).trans rfl
    have g0a : (w2.alloc (.cells #[.pointer none] 121)).cell? ⟨w.heap.size, 0, none⟩ = some (.slice A0 l0.length c0) := (blk_cell (blk_alloc HX1.out _) 0).trans rfl
    have g1a : (w2.alloc (.cells #[.pointer none] 121)).cell? ⟨w.heap.size, 1, none⟩ = some (.int .i64 u) := (blk_cell (blk_alloc HX1.out _) 1).trans rfl
    have g2a : (w2.alloc (.cells #[.pointer none] 121)).cell? ⟨w.heap.size, 2, none⟩ = some (.slice A2 bs.length c2) := (blk_cell (blk_alloc HX1.out _) 2).trans rfl
    have g0b : (w2.alloc (.cells (Array.replicate u (.bool false)) 4)).cell? ⟨w.heap.size, 0, none⟩ = some (.slice A0 l0.length c0) := (blk_cell (blk_alloc HX1.out _) 0).trans rfl
    have g1b : (w2.alloc (.cells (Array.replicate u (.bool false)) 4)).cell? ⟨w.heap.size, 1, none⟩ = some (.int .i64 u) := (blk_cell (blk_alloc HX1.out _) 1).trans rfl
    have g2b : (w2.alloc (.cells (Array.replicate u (.bool false)) 4)).cell? ⟨w.heap.size, 2, none⟩ = some (.slice A2 bs.length c2) := (blk_cell (blk_alloc HX1.out _) 2).trans rfl
    have g0c : ((w2.alloc (.cells #[.pointer none] 121)).alloc (.cells (Array.replicate u (.bool false)) 4)).cell? ⟨w.heap.size, 0, none⟩ = some (.slice A0 l0.length c0) := (blk_cell (blk_alloc (blk_alloc HX1.out _) _) 0).trans rfl
    have g1c : ((w2.alloc (.cells #[.pointer none] 121)).alloc (.cells (Array.replicate u (.bool false)) 4)).cell? ⟨w.heap.size, 1, none⟩ = some (.int .i64 u) := (blk_cell (blk_alloc (blk_alloc HX1.out _) _) 1).trans rfl
    have g2c : ((w2.alloc (.cells #[.pointer none] 121)).alloc (.cells (Array.replicate u (.bool false)) 4)).cell? ⟨w.heap.size, 2, none⟩ = some (.slice A2 bs.length c2) := (blk_cell (blk_alloc (blk_alloc HX1.out _) _) 2).trans rfl
    have g0d : ((w2.alloc (.cells (Array.replicate u (.bool false)) 4)).alloc (.cells #[.pointer none] 121)).cell? ⟨w.heap.size, 0, none⟩ = some (.slice A0 l0.length c0) := (blk_cell (blk_alloc (blk_alloc HX1.out _) _) 0).trans rfl
    have g1d : ((w2.alloc (.cells (Array.replicate u (.bool false)) 4)).alloc (.cells #[.pointer none] 121)).cell? ⟨w.heap.size, 1, none⟩ = some (.int .i64 u) := (blk_cell (blk_alloc (blk_alloc HX1.out _) _) 1).trans rfl
    have g2d : ((w2.alloc (.cells (Array.replicate u (.bool false)) 4)).alloc (.cells #[.pointer none] 121)).cell? ⟨w.heap.size, 2, none⟩ = some (.slice A2 bs.length c2) := (blk_cell (blk_alloc (blk_alloc HX1.out _) _) 2).trans rfl
    go_wp2_with fail
    go_region
    all_goals
      refine hK1 _ _ ?_
      go_meet
    case rel =>
      have h3 := three w2 (.cells (Array.replicate u (.bool false)) 4) (.cells #[.slice A0 l0.length c0, .int .i64 u, .slice A2 bs.length c2, .slice none 0 0, .slice none 0 0, .slice none 0 0, .slice (some ⟨w2.heap.size, 0, none⟩) u u] 128) (.cells #[.pointer (some ⟨w2.heap.size + 1, 0, none⟩)] 121)
      exact ⟨_, _, _, rfl, ⟨below_step HB1.out h3.2.2.2, blk_below HX1.out h3.2.2.2, h3.2.2.1, h3.2.1, bb_rep h3.1, by have := blk_lt HX1.out; omega, by have := blk_lt HX1.out; omega, by have := blk_lt HX1.out; omega⟩⟩
    case rel =>
      have h3 := three w2 (.cells (Array.replicate u (.bool false)) 4) (.cells #[.pointer (some ⟨w2.heap.size + 1 + 1, 0, none⟩)] 121) (.cells #[.slice A0 l0.length c0, .int .i64 u, .slice A2 bs.length c2, .slice none 0 0, .slice none 0 0, .slice none 0 0, .slice (some ⟨w2.heap.size, 0, none⟩) u u] 128)
      exact ⟨_, _, _, rfl, ⟨below_step HB1.out h3.2.2.2, blk_below HX1.out h3.2.2.2, h3.2.1, h3.2.2.1, bb_rep h3.1, by have := blk_lt HX1.out; omega, by have := blk_lt HX1.out; omega, by have := blk_lt HX1.out; omega⟩⟩
    case rel =>
      have h3 := three w2 (.cells #[.pointer (some ⟨w2.heap.size + 1 + 1, 0, none⟩)] 121) (.cells (Array.replicate u (.bool false)) 4) (.cells #[.slice A0 l0.length c0, .int .i64 u, .slice A2 bs.length c2, .slice none 0 0, .slice none 0 0, .slice none 0 0, .slice (some ⟨w2.heap.size + 1, 0, none⟩) u u] 128)
      exact ⟨_, _, _, rfl, ⟨below_step HB1.out h3.2.2.2, blk_below HX1.out h3.2.2.2, h3.1, h3.2.2.1, bb_rep h3.2.1, by have := blk_lt HX1.out; omega, by have := blk_lt HX1.out; omega, by have := blk_lt HX1.out; omega⟩⟩
  case rest =>
    obtain ⟨g7, gs, gg, rfl, hfs⟩ := hcut
    have HFS := Lib.hid hfs
    clear hfs
    have G := gE_gok HE.out
    obtain ⟨k0, hk0⟩ := reach_f l0 u bs hs
    rw [if_pos HE.out, HE.out] at hk0
    have HRE := Lib.hid hk0
    have F := FEnv.of HE.out
    have hrl := F.rlen
    have hnb := G.nb
    have hne := G.ne
    have HT := Lib.hid G.T
    obtain ⟨xi, hxi, hxi2⟩ := inside_f (xs := l0) (sites := (u : Int)) hs
    rw [HE.out] at hxi
    have hxe := hxi2 HE.out
    subst hxe
    have HIE := Lib.hid hxi
    have hil := (sideOk HE.out).li
    clear hk0 G F hxi hxi2
    go_wp2_with fail
    have g7c : wc.cell? ⟨g7, 0, none⟩ = some (.pointer (some ⟨gs, 0, none⟩)) := (blk_cell HFS.out.p7 0).trans rfl
    have b0 : wc.cell? ⟨w.heap.size, 0, none⟩ = some (.slice A0 l0.length c0) := (blk_cell HFS.out.bx 0).trans rfl
    have b1 : wc.cell? ⟨w.heap.size, 1, none⟩ = some (.int .i64 u) := (blk_cell HFS.out.bx 1).trans rfl
    have b2 : wc.cell? ⟨w.heap.size, 2, none⟩ = some (.slice A2 bs.length c2) := (blk_cell HFS.out.bx 2).trans rfl
    go_region_held3 (fun w' => w'.cell? ⟨g7, 0, none⟩ = some (.pointer (some ⟨gs, 0, none⟩)) ∧ w'.cell? ⟨w.heap.size, 0, none⟩ = some (.slice A0 l0.length c0) ∧ w'.cell? ⟨w.heap.size, 1, none⟩ = some (.int .i64 u) ∧ w'.cell? ⟨w.heap.size, 2, none⟩ = some (.slice A2 bs.length c2))
      (first | go_keep | exact ⟨pw_cell_below HB5.out g7c, pw_cell_below HB5.out b0, pw_cell_below HB5.out b1, pw_cell_below HB5.out b2⟩ | exact ⟨(blk_cell (HFS5.out.set 3 _).p7 0).trans rfl, (blk_cell (HFS5.out.set 3 _).bx 0).trans rfl, (blk_cell (HFS5.out.set 3 _).bx 1).trans rfl, (blk_cell (HFS5.out.set 3 _).bx 2).trans rfl⟩ | skip)
      (first | (go_at_call 49; refine (flow_Reach.calls k0 A0 c0 l0 u A2 c2 bs (reachS bs) 0 _ (Kd.C_below HC0.out (by exact HFS.out.b.drew)) HL0.out (Kd.C_below HC.out (by exact HFS.out.b.drew)) hc HRE.out).mono ?_; rintro e w5 ⟨v5, rfl, hr5, hb5⟩; obtain ⟨gr, cr, hv5, _, _, _⟩ := Kd.R_form hr5 (by rw [hrl]; exact hne); subst hv5; have HB5 := Lib.hid hb5; have HR5 := Lib.hid hr5; clear hb5 hr5; have HFS5 := Lib.hid (HFS.out.below (below_step (below_drew1 (Below.refl _ _)) HB5.out)); have s3 : w5.cell? ⟨gs, 3, none⟩ = some (.slice none 0 0) := (blk_cell HFS5.out.s 3).trans rfl; have s3f := blk_frozen HFS5.out.s 3))
    obtain ⟨CR, hCR, hcrl, hCRv⟩ := R_block HR5.out (by rw [hrl]; exact hne)
    rw [hrl] at hcrl hCRv
    have HCRV := Lib.hid hCRv
    have HLG := Lib.hid (blk_lt HFS.out.g)
    have HFS6 := Lib.hid (HFS5.out.set 3 (.slice (some ⟨gr, 0, none⟩) bs.length cr))
    have HGR := Lib.hid (show gg < gr from by
      have h1 := HLG.out
      have h2 := Kd.R_base HR5.out gr rfl
      have h3 : wc.heap.size ≤ gr := h2
      omega)
    have HCR6 := Lib.hid (show (w5.setCell ⟨gs, 3, none⟩ (.slice (some ⟨gr, 0, none⟩) bs.length cr)).heap[gr]? = some (.cells CR 4 (0, 0)) from (set_frame w5 gs 3 _ (blk_ne hCR HFS5.out.s (by decide))).trans hCR)
    clear g7c b0 b1 b2 s3 s3f hCR hCRv
    simp only [List.setIfInBounds_toArray, List.set_cons_succ, List.set_cons_zero] at HFS6
    generalize w5.setCell ⟨gs, 3, none⟩ (.slice (some ⟨gr, 0, none⟩) bs.length cr) = w6 at *
    clear HFS5 HB5 HR5 HFS
    have HFS := Lib.hid HFS6.out
    have g7c : w6.cell? ⟨g7, 0, none⟩ = some (.pointer (some ⟨gs, 0, none⟩)) := (blk_cell HFS.out.p7 0).trans rfl
    have b0 : w6.cell? ⟨w.heap.size, 0, none⟩ = some (.slice A0 l0.length c0) := (blk_cell HFS.out.bx 0).trans rfl
    have b1 : w6.cell? ⟨w.heap.size, 1, none⟩ = some (.int .i64 u) := (blk_cell HFS.out.bx 1).trans rfl
    have b2 : w6.cell? ⟨w.heap.size, 2, none⟩ = some (.slice A2 bs.length c2) := (blk_cell HFS.out.bx 2).trans rfl
    clear HFS6
    go_wp2_with fail
    go_region_held3 (fun w' => w'.cell? ⟨g7, 0, none⟩ = some (.pointer (some ⟨gs, 0, none⟩)) ∧ w'.cell? ⟨w.heap.size, 0, none⟩ = some (.slice A0 l0.length c0) ∧ w'.cell? ⟨w.heap.size, 1, none⟩ = some (.int .i64 u) ∧ w'.cell? ⟨w.heap.size, 2, none⟩ = some (.slice A2 bs.length c2))
      (first | go_keep | exact ⟨pw_cell_below HB5.out g7c, pw_cell_below HB5.out b0, pw_cell_below HB5.out b1, pw_cell_below HB5.out b2⟩ | exact ⟨(blk_cell (HFS5.out.set 4 _).p7 0).trans rfl, (blk_cell (HFS5.out.set 4 _).bx 0).trans rfl, (blk_cell (HFS5.out.set 4 _).bx 1).trans rfl, (blk_cell (HFS5.out.set 4 _).bx 2).trans rfl⟩ | skip)
      (first | (go_at_call 53; refine (flow_Inside.calls A0 c0 l0 u A2 c2 bs (sidesOf bs).1 0 _ (Kd.C_below HC0.out (by exact HFS.out.b.drew)) HL0.out (Kd.C_below HC.out (by exact HFS.out.b.drew)) hc HIE.out).mono ?_; rintro e w7 ⟨v7, rfl, hr5, hb5⟩; obtain ⟨gi, ci, hv5, _, _, _⟩ := Kd.R_form hr5 (by rw [hil]; exact hne); subst hv5; have HB5 := Lib.hid hb5; have HR5 := Lib.hid hr5; clear hb5 hr5; have HFS5 := Lib.hid (HFS.out.below (below_step (below_drew1 (Below.refl _ _)) HB5.out)); have s3 : w7.cell? ⟨gs, 4, none⟩ = some (.slice none 0 0) := (blk_cell HFS5.out.s 4).trans rfl; have s3f := blk_frozen HFS5.out.s 4))
    obtain ⟨CI, hCI, hcil, hCIv⟩ := R_block HR5.out (by rw [hil]; exact hne)
    rw [hil] at hcil hCIv
    have HCIV := Lib.hid hCIv
    have HFS8 := Lib.hid (HFS5.out.set 4 (.slice (some ⟨gi, 0, none⟩) bs.length ci))
    have HGI := Lib.hid (show gg < gi from by
      have h1 := blk_lt HFS.out.g
      have h2 := Kd.R_base HR5.out gi rfl
      have h3 : w6.heap.size ≤ gi := h2
      omega)
    have HCR8 := Lib.hid (show (w7.setCell ⟨gs, 4, none⟩ (.slice (some ⟨gi, 0, none⟩) bs.length ci)).heap[gr]? = some (.cells CR 4 (0, 0)) from (set_frame w7 gs 4 _ (blk_ne HCR6.out HFS.out.s (by decide))).trans (blk_below HCR6.out (below_step (below_drew1 (Below.refl _ _)) HB5.out)))
    have HCI8 := Lib.hid (show (w7.setCell ⟨gs, 4, none⟩ (.slice (some ⟨gi, 0, none⟩) bs.length ci)).heap[gi]? = some (.cells CI 4 (0, 0)) from (set_frame w7 gs 4 _ (blk_ne hCI HFS5.out.s (by decide))).trans hCI)
    clear g7c b0 b1 b2 s3 s3f hCI hCIv
    simp only [List.setIfInBounds_toArray, List.set_cons_succ, List.set_cons_zero] at HFS8
    generalize w7.setCell ⟨gs, 4, none⟩ (.slice (some ⟨gi, 0, none⟩) bs.length ci) = w8 at *
    clear HFS5 HB5 HR5 HFS HCR6
    have b0 : w8.cell? ⟨w.heap.size, 0, none⟩ = some (.slice A0 l0.length c0) := (blk_cell HFS8.out.bx 0).trans rfl
    go_wp2_with fail
    clear b0
    have hxl : l0.length ≤ 1024 := (gE_gok HE.out).nx
    have HNF := Lib.hid (show NF w #[.slice A0 l0.length c0, .int .i64 u, .slice A2 bs.length c2] g7 gs gg (fun v => #[.slice A0 l0.length c0, .int .i64 u, .slice A2 bs.length c2, .slice (some ⟨gr, 0, none⟩) bs.length cr, .slice (some ⟨gi, 0, none⟩) bs.length ci, v, .slice (some ⟨gg, 0, none⟩) u u]) u gr gi CR CI w8.heap.size [] (.slice none 0 0) w8 from
      ⟨HFS8.out, HCR8.out, HCI8.out, ⟨rfl, .inl ⟨rfl, rfl⟩⟩, (by simp), List.nodup_nil, (by simp), Nat.le_refl _⟩)
    have HB8 := Lib.hid HFS8.out.b.size
    have HGL := Lib.hid (show gg < w8.heap.size ∧ gr < w8.heap.size ∧ gi < w8.heap.size from ⟨blk_lt HFS8.out.g, blk_lt HCR8.out, blk_lt HCI8.out⟩)
    clear HFS8 HCR8 HCI8
    generalize hB : w8.heap.size = B8 at HNF HB8 HGL
    clear hB
    go_loopw [50] (fun j wr => ∃ (q : Nat) (rb : List Nat) (An : Option Addr) (cn : Nat), q ≤ l0.length ∧ j = .int .i64 q ∧ rb.length = q ∧ NF w #[.slice A0 l0.length c0, .int .i64 u, .slice A2 bs.length c2] g7 gs gg (fun v => #[.slice A0 l0.length c0, .int .i64 u, .slice A2 bs.length c2, .slice (some ⟨gr, 0, none⟩) bs.length cr, .slice (some ⟨gi, 0, none⟩) bs.length ci, v, .slice (some ⟨gg, 0, none⟩) u u]) u gr gi CR CI B8 rb (.slice An q cn) wr) (fun j _ => l0.length - (intOf j).toNat)
    case atStart => exact ⟨0, [], none, 0, by omega, rfl, rfl, HNF.out⟩
    case round =>
      clear HNF
      obtain ⟨q, rb, An, cn, hq, rfl, hrbl, hnf⟩ := hrel
      subst hrbl
      have HNF := Lib.hid hnf
      clear hnf
      have g7c : wr.cell? ⟨g7, 0, none⟩ = some (.pointer (some ⟨gs, 0, none⟩)) := (blk_cell HNF.out.fs.p7 0).trans rfl
      by_cases hlt : rb.length < l0.length
      · have b1 : wr.cell? ⟨w.heap.size, 1, none⟩ = some (.int .i64 u) := (blk_cell HNF.out.fs.bx 1).trans rfl
        have n5 : wr.cell? ⟨gs, 5, none⟩ = some (.slice An rb.length cn) := (blk_cell HNF.out.fs.s 5).trans rfl
        have hmk : ∀ W : World, (Instr.makeSlice 22 (.int .i64 ((u : Int) + 1)) (.int .i64 ((u : Int) + 1))).run Try.prog W = .ok (.slice (some ⟨W.heap.size, 0, none⟩) (u + 1) (u + 1)) (W.alloc (.cells (Array.replicate (u + 1) (.bool false)) 4)) := HMK1.out
        have hwu : IntKind.i64.wrap ((u : Int) + 1) = (u : Int) + 1 := IntWalk.i64_in _ (by omega)
        have hi0 := HI0.out
        have hz0 := HZ0.out
        have hz1 := HZ1.out
        have hz2 := HZ2.out
        have hown := HNF.out.n
        go_upto_block 1 with fail
        go_cut [] (fun wc => ∃ (rb2 : List Nat) (An2 : Option Addr) (cn2 : Nat), rb2.length = rb.length + 1 ∧ NF w #[.slice A0 l0.length c0, .int .i64 u, .slice A2 bs.length c2] g7 gs gg (fun v => #[.slice A0 l0.length c0, .int .i64 u, .slice A2 bs.length c2, .slice (some ⟨gr, 0, none⟩) bs.length cr, .slice (some ⟨gi, 0, none⟩) bs.length ci, v, .slice (some ⟨gg, 0, none⟩) u u]) u gr gi CR CI B8 rb2 (.slice An2 (rb.length + 1) cn2) wc)
        case first J1 K1 hJ1 hK1 =>
          clear HC0 HL0 HC HE HMK HRE HIE HCRV HCIV HGR HGI HGL HT hrl hil hnb hne hcrl hcil hc hs HB1 HX1 HLG HMK1 HI0 HZ0 HZ1 HZ2
          have p7a : (wr.alloc (.cells (Array.replicate (u + 1) (.bool false)) 4)).cell? ⟨g7, 0, none⟩ = some (.pointer (some ⟨gs, 0, none⟩)) := (blk_cell (blk_alloc HNF.out.fs.p7 _) 0).trans rfl
          have b1a : (wr.alloc (.cells (Array.replicate (u + 1) (.bool false)) 4)).cell? ⟨w.heap.size, 1, none⟩ = some (.int .i64 u) := (blk_cell (blk_alloc HNF.out.fs.bx _) 1).trans rfl
          have n5a : (wr.alloc (.cells (Array.replicate (u + 1) (.bool false)) 4)).cell? ⟨gs, 5, none⟩ = some (.slice An rb.length cn) := (blk_cell (blk_alloc HNF.out.fs.s _) 5).trans rfl
          have p7b : ((wr.alloc (.cells (Array.replicate (u + 1) (.bool false)) 4)).alloc (.cells #[.slice (some ⟨wr.heap.size, 0, none⟩) (u + 1) (u + 1)] 22)).cell? ⟨g7, 0, none⟩ = some (.pointer (some ⟨gs, 0, none⟩)) := (blk_cell (blk_alloc (blk_alloc HNF.out.fs.p7 _) _) 0).trans rfl
          have b1b : ((wr.alloc (.cells (Array.replicate (u + 1) (.bool false)) 4)).alloc (.cells #[.slice (some ⟨wr.heap.size, 0, none⟩) (u + 1) (u + 1)] 22)).cell? ⟨w.heap.size, 1, none⟩ = some (.int .i64 u) := (blk_cell (blk_alloc (blk_alloc HNF.out.fs.bx _) _) 1).trans rfl
          have n5b : ((wr.alloc (.cells (Array.replicate (u + 1) (.bool false)) 4)).alloc (.cells #[.slice (some ⟨wr.heap.size, 0, none⟩) (u + 1) (u + 1)] 22)).cell? ⟨gs, 5, none⟩ = some (.slice An rb.length cn) := (blk_cell (blk_alloc (blk_alloc HNF.out.fs.s _) _) 5).trans rfl
          go_wp2_with fail
          go_region_law ((refine step_append_lies _ (by rfl) _ _ _ (by rfl) B8 22 i0 (.slice none 0 0) 1 24 Try.underlying126 hi0 hz0 hz1 hz2 rfl (by omega) (.slice An rb.length cn) rb.length (rb.map (rowV u)) (by rfl) (((hown.alloc _).alloc _).drew) ⟨wr.heap.size + 1, 0, none⟩ 1 1 [rowV u wr.heap.size] (by rfl) (by rfl) (World.news_of_block (cs := #[rowV u wr.heap.size]) (t := 22) (fr := (0, 0)) (news22 wr u)) (by simp [rowV, Value.oneCell']) (by omega) (by unfold maxLen; omega) (by omega) (by have := HNF.out.sz; simp; omega) (wr.heap.size + 2) (by simp) ?_; intro gn cap w1 hown1 hgrow hat hlt2; have HG1 := Lib.hid (HNF.out.grow HB8.out hgrow); have HO1 := Lib.hid hown1; have HGR1 := Lib.hid hgrow; clear hown1 hgrow hat; have s5 : w1.cell? ⟨gs, 5, none⟩ = some (.slice An rb.length cn) := (blk_cell HG1.out.s 5).trans rfl; have s5f := blk_frozen HG1.out.s 5; have p7a : w1.cell? ⟨g7, 0, none⟩ = some (.pointer (some ⟨gs, 0, none⟩)) := (blk_cell HG1.out.p7 0).trans rfl; have bx1 : w1.cell? ⟨w.heap.size, 1, none⟩ = some (.int .i64 u) := (blk_cell HG1.out.bx 1).trans rfl))
          all_goals
            refine hK1 _ _ ?_
            go_meet
          all_goals exact ⟨rb ++ [wr.heap.size], _, _, by simp, HNF.out.step HB8.out (fun _ _ => rfl) HO1.out HGR1.out⟩
        case rest =>
          obtain ⟨rb2, An2, cn2, hl2, hnf2⟩ := hcut
          have HNF2 := Lib.hid hnf2
          have HL2 := Lib.hid hl2
          clear hnf2 hl2 hown hi0 hz0 hz1 hz2 hmk g7c b1 n5 HNF
          go_wp2_with fail
          go_roundw
          case rel => exact ⟨rb.length + 1, rb2, An2, cn2, by omega, by go_num, HL2.out, HNF2.out⟩
          case measure => simp [intOf]; omega
      · have hqe : rb.length = l0.length := by omega
        have HQE := Lib.hid hqe
        clear hqe
        have H7 := Lib.hid HNF.out.fs.p7
        obtain ⟨p, hF, hgs, hES⟩ := HNF.out.es HC0.out HL0.out HC.out hc hu hnb hxl hcrl hcil HCRV.out HCIV.out HB8.out HGL.out.1 HGR.out HGI.out HGL.out.2.1 HGL.out.2.2 HQE.out
        subst hgs
        have HF := Lib.hid hF
        have HES := Lib.hid hES
        have HVI := Lib.hid (show ∀ n k i, (n, k, i) ∈ visits p.reach p.ins p.bs → InsOk p n k i from fun n k i hm => insOk_of p (by rw [hF.e0, hF.eu, hF.eb]; exact HE.out) (by rw [hF.rl, hF.e0]) n k i hm)
        have HSM := Lib.hid (show smallG p.bs from by rw [hF.eb]; exact hs)
        clear hF hES HNF HC0 HL0 HC HRE HIE HCRV HCIV HGR HGI HGL HT HB1 HX1 HLG HMK HMK1 HI0 HZ0 HZ1 HZ2 HQE HB8
        go_wp2_with fail
        refine (again_flows p HF.out.ok HSM.out HVI.out g7 _ wr HES.out H7.out).mono ?_
        rintro e w9 ⟨rfl, he9, hf9⟩
        have HE9 := Lib.hid he9
        have H79 := Lib.hid (hf9.2 _ _ _ H7.out (by decide) (by decide) (by decide))
        clear he9 hf9 g7c H7 HES
        have g7c : w9.cell? ⟨g7, 0, none⟩ = some (.pointer (some ⟨p.gs, 0, none⟩)) := (blk_cell H79.out 0).trans rfl
        go_wp2_with fail
        refine (again_drop p HF.out.ok HVI.out g7 _ w9 HE9.out H79.out).mono ?_
        rintro e w10 ⟨rfl, he9, hf9⟩
        have HE10 := Lib.hid he9
        have H710 := Lib.hid (hf9.2 _ _ _ H79.out (by decide) (by decide) (by decide))
        clear he9 hf9 g7c H79 HE9
        have g7c : w10.cell? ⟨g7, 0, none⟩ = some (.pointer (some ⟨p.gs, 0, none⟩)) := (blk_cell H710.out 0).trans rfl
        go_wp2_with fail
        go_ret2
        refine ⟨p, HF.out, rfl, ?_⟩
        have h10 := HE10.out
        rw [HF.out.e0, HF.out.eu, HF.out.eb, HF.out.er, HF.out.ei] at h10
        exact h10
end Go.Proofs.Ytjmeignhhheckaa.H
namespace Go.Proofs.Ytjmeignhhheckaa.H
open Go.RowKit Go.Maps Go.Proofs.YtjmeignhhheckaaW.PrintWords Go.Proofs.YtjmeignhhheckaaW.PrintLast Go.Proofs.Ytjmeignhhheckaa.Q
set_option maxRecDepth 100000
def spC (l : List S41) : List Value := l.flatMap fun s => [.int .i64 s.f0, .int .i64 s.f1]
theorem spC_snoc (l : List S41) (s : S41) : spC (l ++ [s]) = spC l ++ [.int .i64 s.f0, .int .i64 s.f1] := by simp [spC]
theorem info41 : (Try.prog.info? 41).map (fun i => (i.zero, i.size, i.bytes)) = some (some (.agg #[.int .i64 0, .int .i64 0]), 2, 16) := by kernel_rfl
theorem ES.grown41 {p : EP} {st : ESt} {W w1 : World} {base n : Nat} {v : Value} {xs : List Value} (h : ES p st W) (ho : W.ownsRow base 41 2 v n xs) (hb : p.w0.heap.size ≤ base) (hg : W.grownBy w1 v.ownBlock) : ES p st w1 ∧ FrT W w1 := by
  have hne : ∀ {k t : Nat} {C : Array Value}, W.heap[k]? = some (.cells C t (0, 0)) → t ≠ 41 → some k ≠ v.ownBlock := fun hk ht e => by
    obtain ⟨cs, hcs⟩ := own_typed ho _ e.symm
    exact blk_ne hk hcs ht rfl
  have hbase : ∀ k, v.ownBlock = some k → p.w0.heap.size ≤ k := fun k hk => by
    rcases ho.2 with ⟨h0, _⟩ | ⟨g', c', cur, hv, hg', _⟩
    · rw [h0] at hk; cases hk
    · rw [hv] at hk
      have : g' = k := by simpa [Value.ownBlock] using hk
      omega
  exact ⟨⟨h.b.grown hg h.b.size hbase, blk_grown h.s hg (hne h.s (by decide)), blk_grown h.r hg (hne h.r (by decide)), blk_grown h.i hg (hne h.i (by decide)), fun hn => blk_grown (h.n hn) hg (hne (h.n hn) (by decide)), fun j hj => blk_grown (h.rows j hj) hg (hne (h.rows j hj) (by decide)), blk_grown h.g hg (hne h.g (by decide)), h.ok⟩,
    hg.size, fun k C t hk _ h41 _ => blk_grown hk hg (hne hk h41)⟩
theorem ES.put74 {p : EP} {st : ESt} {W : World} (h : ES p st W) {g6 : Nat} {C : Array Value} (h6 : W.heap[g6]? = some (.cells C 74 (0, 0))) (hb : p.w0.heap.size ≤ g6) (v : Value) : ES p st (W.setCell ⟨g6, 0, none⟩ v) ∧ FrT W (W.setCell ⟨g6, 0, none⟩ v) :=
  ⟨⟨h.b.setCell hb _, (set_frame W _ 0 v (blk_ne h.s h6 (by decide))).trans h.s, (set_frame W _ 0 v (blk_ne h.r h6 (by decide))).trans h.r, (set_frame W _ 0 v (blk_ne h.i h6 (by decide))).trans h.i,
    fun hn => (set_frame W _ 0 v (blk_ne (h.n hn) h6 (by decide))).trans (h.n hn), fun j hj => (set_frame W _ 0 v (blk_ne (h.rows j hj) h6 (by decide))).trans (h.rows j hj), (set_frame W _ 0 v (blk_ne h.g h6 (by decide))).trans h.g, h.ok⟩,
    by simp, fun k C' t hk _ _ h74 => (set_frame W _ 0 v (blk_ne hk h6 h74)).trans hk⟩
/-- escape.Own, while it collects -/
structure OG (p : EP) (st : ESt) (g4 g6 : Nat) (l : List S41) (W : World) : Prop where
  es : ES p st W
  v4 : W.heap[g4]? = some (.cells #[.pointer (some ⟨p.gs, 0, none⟩)] 121 (0, 0))
  v6 : ∃ A c, W.heap[g6]? = some (.cells #[.slice A l.length c] 74 (0, 0)) ∧ W.ownsRow p.w0.heap.size 41 2 (.slice A l.length c) l.length (spC l)
  b6 : p.w0.heap.size ≤ g6
theorem own_below {W W' : World} {base e size n : Nat} {v : Value} {xs : List Value} (h : W.ownsRow base e size v n xs) (hb : Below W.heap.size W W') : W'.ownsRow base e size v n xs :=
  own_move h (fun k hk => by obtain ⟨cs, hcs⟩ := own_typed h k hk; exact hb.block k (blk_lt hcs))
theorem OG.below {p : EP} {st : ESt} {g4 g6 : Nat} {l : List S41} {W W' : World} (h : OG p st g4 g6 l W) (hb : Below W.heap.size W W') : OG p st g4 g6 l W' := by
  obtain ⟨A, c, h1, h2⟩ := h.v6
  exact ⟨h.es.below hb, blk_below h.v4 hb, ⟨A, c, blk_below h1 hb, own_below h2 hb⟩, h.b6⟩
theorem any_id {l : List Bool} : l.any id = true ↔ ∃ j, j < l.length ∧ l.getD j false = true := by
  constructor
  · intro h
    obtain ⟨b, hb, hbt⟩ := List.any_eq_true.1 h
    obtain ⟨j, hj, e⟩ := List.getElem_of_mem hb
    refine ⟨j, hj, ?_⟩
    rw [List.getD_eq_getElem?_getD, List.getElem?_eq_getElem hj, e]
    exact hbt
  · rintro ⟨j, hj, e⟩
    rw [List.getD_eq_getElem?_getD, List.getElem?_eq_getElem hj] at e
    exact List.any_eq_true.2 ⟨l[j], List.getElem_mem hj, e⟩
theorem own1_no (p : EP) (ok : EPok p) (st : ESt) (g4 g6 : Nat) (l : List S41) (n k : Nat) (i : S46) (W : World) (h : OG p st g4 g6 l W) (hm : isMem i = false) :
    Calls Try.prog 74 #[.agg #[.int .i64 n, .int .i64 k], .agg #[.int .u8 i.f0, .int .u8 i.f1, .int .i64 i.f2, .int .i64 i.f3, .int .i64 i.f4, .int .i64 i.f5], .pointer (some ⟨g4, 0, none⟩), .pointer (some ⟨g6, 0, none⟩)] W fun e w' => e = .returned (.tuple #[]) ∧ OG p st g4 g6 l w' ∧ FrT W w' := by
  have HB := Lib.hid (show Below W.heap.size W ((W.alloc (.cells #[.int .i64 n, .int .i64 k] 41)).alloc (.cells #[.int .u8 i.f0, .int .u8 i.f1, .int .i64 i.f2, .int .i64 i.f3, .int .i64 i.f4, .int .i64 i.f5] 46)) from below_alloc (below_alloc (Below.refl _ _) _) _)
  have HO := Lib.hid (h.below HB.out)
  have HBA := Lib.hid (based_any i)
  rw [hm] at HBA
  clear h hm
  obtain ⟨f0, f1, f2, f3, f4, f5⟩ := i
  dsimp only at *
  have hu46 := Try.underlying46
  have hu41 := Try.underlying41
  go_enter Try.func74, Try.ntmps74
  go_wp2_with (go_at_call 75; go_loud (refine (HBA.out _).mono ?_; rintro e w1 ⟨rfl, hb⟩; have HO1 := Lib.hid (HO.out.below hb); have HB1 := Lib.hid (below_step HB.out hb); clear hb))
  refine bodyPost_ret (results_none rfl _ _ _) rfl ⟨rfl, HO1.out, FrT.of_below HB1.out⟩
theorem OG.push {p : EP} {st : ESt} {g4 g6 : Nat} {l : List S41} {W w1 : World} {A : Option Addr} {c g cap : Nat} {x : S41} (h : OG p st g4 g6 l W) (h6 : W.heap[g6]? = some (.cells #[.slice A l.length c] 74 (0, 0))) (ho : W.ownsRow p.w0.heap.size 41 2 (.slice A l.length c) l.length (spC l))
    (hown : w1.ownsRow p.w0.heap.size 41 2 (.slice (some ⟨g, 0, none⟩) (l.length + 1) cap) (l.length + 1) (spC l ++ [.int .i64 x.f0, .int .i64 x.f1])) (hg : (W.alloc (.cells #[.int .i64 x.f0, .int .i64 x.f1] 41)).grownBy w1 (Value.slice A l.length c).ownBlock) :
    w1.cell? ⟨g6, 0, none⟩ = some (.slice A l.length c) ∧ w1.frozen? ⟨g6, 0, none⟩ = false ∧ OG p st g4 g6 (l ++ [x]) (w1.setCell ⟨g6, 0, none⟩ (.slice (some ⟨g, 0, none⟩) (l.length + 1) cap)) ∧ FrT W (w1.setCell ⟨g6, 0, none⟩ (.slice (some ⟨g, 0, none⟩) (l.length + 1) cap)) := by
  have hb := below_alloc (Below.refl W.heap.size W) (.cells #[.int .i64 x.f0, .int .i64 x.f1] 41)
  have ho2 := own_below ho hb
  obtain ⟨he, hf⟩ := (h.es.below hb).grown41 ho2 (Nat.le_refl _) hg
  have h61 : w1.heap[g6]? = some (.cells #[.slice A l.length c] 74 (0, 0)) := blk_grown (blk_below h6 hb) hg (fun e => by
    obtain ⟨cs, hcs⟩ := own_typed ho2 _ e.symm
    exact blk_ne (blk_below h6 hb) hcs (by decide) rfl)
  obtain ⟨he2, hf2⟩ := he.put74 h61 h.b6 (.slice (some ⟨g, 0, none⟩) (l.length + 1) cap)
  have h41 := hf.2 _ _ _ (blk_below h.v4 hb) (by decide) (by decide) (by decide)
  refine ⟨(blk_cell h61 0).trans rfl, blk_frozen h61 0, ⟨he2, (set_frame w1 g6 0 _ (blk_ne h41 h61 (by decide))).trans h41, ⟨some ⟨g, 0, none⟩, cap, ?_, ?_⟩, h.b6⟩, ((FrT.of_below hb).trans hf).trans hf2⟩
  · rw [List.length_append]
    exact blk_put h61 0 _ rfl
  · rw [spC_snoc, List.length_append]
    refine own_move hown (fun k hk => ?_)
    obtain ⟨cs, hcs⟩ := own_typed hown k hk
    exact set_frame w1 g6 0 _ (fun e => blk_ne h61 hcs (by decide) e.symm)
set_option maxHeartbeats 2000000 in
theorem own1_yes (p : EP) (ok : EPok p) (st : ESt) (g4 g6 : Nat) (l : List S41) (hl : l.length ≤ 100000000) (n k : Nat) (f0 f1 f2 f4 f5 : Int) (b : Nat) (W : World) (h : OG p st g4 g6 l W) (hm : isMem ⟨f0, f1, f2, b, f4, f5⟩ = true) (hb : b < p.rb.length) :
    Calls Try.prog 74 #[.agg #[.int .i64 n, .int .i64 k], .agg #[.int .u8 f0, .int .u8 f1, .int .i64 f2, .int .i64 b, .int .i64 f4, .int .i64 f5], .pointer (some ⟨g4, 0, none⟩), .pointer (some ⟨g6, 0, none⟩)] W fun e w' => e = .returned (.tuple #[]) ∧ OG p st g4 g6 (if !(mixedS st p.u b) && (st.names.getD b []).any id then l ++ [⟨n, k⟩] else l) w' ∧ FrT W w' := by
  have HOK := Lib.hid ok
  have hub := ok.ub
  have hcn := ok.cnl
  have hrn := ok.rn
  have HB := Lib.hid (show Below W.heap.size W ((W.alloc (.cells #[.int .i64 n, .int .i64 k] 41)).alloc (.cells #[.int .u8 f0, .int .u8 f1, .int .i64 f2, .int .i64 b, .int .i64 f4, .int .i64 f5] 46)) from below_alloc (below_alloc (Below.refl _ _) _) _)
  have HX := Lib.hid (show ((W.alloc (.cells #[.int .i64 n, .int .i64 k] 41)).alloc (.cells #[.int .u8 f0, .int .u8 f1, .int .i64 f2, .int .i64 b, .int .i64 f4, .int .i64 f5] 46)).heap[W.heap.size]? = some (.cells #[.int .i64 n, .int .i64 k] 41 (0, 0)) from blk_alloc (blk_new W _) _)
  have HO := Lib.hid (h.below HB.out)
  have HBA := Lib.hid (based_any ⟨f0, f1, f2, b, f4, f5⟩)
  rw [hm] at HBA
  simp only [if_true] at HBA
  have HMX := Lib.hid (mixed_any p ok st b)
  clear h hm ok
  have hu46 := Try.underlying46
  have hu41 := Try.underlying41
  cases hmx : mixedS st p.u b with
  | true =>
    rw [hmx] at HMX
    clear hmx
    simp only [Bool.not_true, Bool.false_and, Bool.false_eq_true, if_false]
    go_enter Try.func74, Try.ntmps74
    go_wp2_with (first | (go_at_call 75; go_loud (refine (HBA.out _).mono ?_; rintro e w1 ⟨rfl, hb⟩; have HO1 := Lib.hid (HO.out.below hb); have HB1 := Lib.hid (below_step HB.out hb); clear hb; have g4c := (blk_cell HO1.out.v4 0).trans rfl)) | (go_at_call 76; go_loud (refine (HMX.out _ HO1.out.es hb).mono ?_; rintro e w2 ⟨rfl, rfl⟩)))
    refine bodyPost_ret (results_none rfl _ _ _) rfl ⟨rfl, HO1.out, FrT.of_below HB1.out⟩
  | false =>
    rw [hmx] at HMX
    clear hmx
    simp only [Bool.not_false, Bool.true_and]
    cases hcy : (st.names.getD b []).any id with
    | true =>
      have HCY := Lib.hid hcy
      clear hcy
      simp only [if_true]
      go_enter Try.func74, Try.ntmps74
      go_wp2_with (first | (go_at_call 75; go_loud (refine (HBA.out _).mono ?_; rintro e w1 ⟨rfl, hb⟩; have HO1 := Lib.hid (HO.out.below hb); have HB1 := Lib.hid (below_step HB.out hb); have HX1 := Lib.hid (blk_below HX.out hb); clear hb; have g4c := (blk_cell HO1.out.v4 0).trans rfl; have r0 := (HO1.out.es.row HOK.out hb).1; have r1 := (HO1.out.es.row HOK.out hb).2; have HHAS := Lib.hid (show ∀ q, q < p.u + 1 → w1.cell? ⟨p.rb.getD b 0, q, none⟩ = some (.bool (st.has b q)) from fun q hq => HO1.out.es.has hb hq); generalize p.rb.getD b 0 = g at r1 HHAS)) | (go_at_call 76; go_loud (refine (HMX.out _ HO1.out.es hb).mono ?_; rintro e w2 ⟨rfl, rfl⟩)))
      obtain ⟨A6, c6, h6, ho6⟩ := HO1.out.v6
      have HPU := Lib.hid (fun (w2 : World) (gn cap : Nat) => OG.push (x := ⟨n, k⟩) (w1 := w2) (g := gn) (cap := cap) HO1.out h6 ho6)
      have HO6 := Lib.hid ho6
      have g6c := (blk_cell h6 0).trans rfl
      have x0 : w1.cell? ⟨W.heap.size, 0, none⟩ = some (.int .i64 n) := (blk_cell HX1.out 0).trans rfl
      have x1 : w1.cell? ⟨W.heap.size, 1, none⟩ = some (.int .i64 k) := (blk_cell HX1.out 1).trans rfl
      have HBZ := Lib.hid HO1.out.es.b.size
      have HLR := Lib.hid (HO1.out.es.ok.lr b hb)
      clear h6 ho6 r0 r1 g4c
      have HNN := Lib.hid (show ∀ j, j < 0 → st.has b j = false from fun j hj => by omega)
      have hu74 := Try.underlying74
      go_loop [30] (fun j => ∃ q : Nat, q ≤ p.u + 1 ∧ j = .int .i64 q ∧ ∀ j', j' < q → st.has b j' = false) (fun j => p.u + 1 - (intOf j).toNat)
      case atStart => exact ⟨0, by omega, rfl, HNN.out⟩
      case round =>
        clear HNN
        obtain ⟨q, hq, rfl, hn⟩ := hrel
        have HN := Lib.hid hn
        clear hn
        by_cases hlt : q < p.u + 1
        · have g2 := HHAS.out q hlt
          cases hh : st.has b q with
          | false =>
            rw [hh] at g2
            have HN2 := Lib.hid (show ∀ j', j' < q + 1 → st.has b j' = false from fun j' hj => by
              by_cases e : j' = q
              · subst e; exact hh
              · exact HN.out j' (by omega))
            clear hh
            go_wp2_with fail
            go_round
            case rel => exact ⟨q + 1, by omega, by go_num, HN2.out⟩
            case measure => simp [intOf]; omega
          | true =>
            rw [hh] at g2
            have HAN := Lib.hid (show (st.names.getD b []).any id = true from any_id.2 ⟨q, by rw [HLR.out]; exact hlt, hh⟩)
            clear hh
            obtain ⟨i0, hi0, hz0, hz1, hz2⟩ := info_parts info41
            go_wp2_with (first | (at_builtin; go_loud (refine wpList_append_lies _ (by rfl) _ _ _ (by rfl) p.w0.heap.size 41 i0 (.agg #[.int .i64 0, .int .i64 0]) 2 16 Try.underlying74 hi0 hz0 hz1 hz2 rfl (by decide) (.slice A6 l.length c6) l.length (spC l) (by rfl) (HO6.out.alloc _) ⟨w1.heap.size, 0, none⟩ 1 1 [.int .i64 n, .int .i64 k] (by rfl) (by rfl) (World.news_of_block (cs := #[.int .i64 n, .int .i64 k]) (t := 41) (fr := (0, 0)) (heap_alloc_new w1 _)) (by simp [Value.oneCell']) (by omega) (by unfold maxLen; omega) (by omega) (by have := HBZ.out; simp; omega) (w1.heap.size + 1) (by simp) ?_; intro gn cap w2 hown1 hgrow hat hlt2; have HP := Lib.hid (HPU.out w2 gn cap hown1 hgrow); clear hown1 hgrow hat hlt2; have g6d := HP.out.1; have g6f := HP.out.2.1)))
            refine bodyPost_ret (results_none rfl _ _ _) rfl ⟨rfl, HP.out.2.2.1, (FrT.of_below HB1.out).trans HP.out.2.2.2⟩
        · have HAN := Lib.hid (show (st.names.getD b []).any id = false from by
            refine Bool.eq_false_iff.2 fun hh => ?_
            obtain ⟨j, hj, e⟩ := any_id.1 hh
            rw [HLR.out] at hj
            have := HN.out j (by omega)
            unfold ESt.has at this
            rw [this] at e
            cases e)
          exact absurd (HAN.out.symm.trans HCY.out) (by decide)
    | false =>
      have HCY := Lib.hid hcy
      clear hcy
      simp only [Bool.false_eq_true, if_false]
      go_enter Try.func74, Try.ntmps74
      go_wp2_with (first | (go_at_call 75; go_loud (refine (HBA.out _).mono ?_; rintro e w1 ⟨rfl, hb⟩; have HO1 := Lib.hid (HO.out.below hb); have HB1 := Lib.hid (below_step HB.out hb); have HX1 := Lib.hid (blk_below HX.out hb); clear hb; have g4c := (blk_cell HO1.out.v4 0).trans rfl; have r0 := (HO1.out.es.row HOK.out hb).1; have r1 := (HO1.out.es.row HOK.out hb).2; have HHAS := Lib.hid (show ∀ q, q < p.u + 1 → w1.cell? ⟨p.rb.getD b 0, q, none⟩ = some (.bool (st.has b q)) from fun q hq => HO1.out.es.has hb hq); generalize p.rb.getD b 0 = g at r1 HHAS)) | (go_at_call 76; go_loud (refine (HMX.out _ HO1.out.es hb).mono ?_; rintro e w2 ⟨rfl, rfl⟩)))
      obtain ⟨A6, c6, h6, ho6⟩ := HO1.out.v6
      have HPU := Lib.hid (fun (w2 : World) (gn cap : Nat) => OG.push (x := ⟨n, k⟩) (w1 := w2) (g := gn) (cap := cap) HO1.out h6 ho6)
      have HO6 := Lib.hid ho6
      have g6c := (blk_cell h6 0).trans rfl
      have x0 : w1.cell? ⟨W.heap.size, 0, none⟩ = some (.int .i64 n) := (blk_cell HX1.out 0).trans rfl
      have x1 : w1.cell? ⟨W.heap.size, 1, none⟩ = some (.int .i64 k) := (blk_cell HX1.out 1).trans rfl
      have HBZ := Lib.hid HO1.out.es.b.size
      have HLR := Lib.hid (HO1.out.es.ok.lr b hb)
      clear h6 ho6 r0 r1 g4c
      have HNN := Lib.hid (show ∀ j, j < 0 → st.has b j = false from fun j hj => by omega)
      have hu74 := Try.underlying74
      go_loop [30] (fun j => ∃ q : Nat, q ≤ p.u + 1 ∧ j = .int .i64 q ∧ ∀ j', j' < q → st.has b j' = false) (fun j => p.u + 1 - (intOf j).toNat)
      case atStart => exact ⟨0, by omega, rfl, HNN.out⟩
      case round =>
        clear HNN
        obtain ⟨q, hq, rfl, hn⟩ := hrel
        have HN := Lib.hid hn
        clear hn
        by_cases hlt : q < p.u + 1
        · have g2 := HHAS.out q hlt
          cases hh : st.has b q with
          | false =>
            rw [hh] at g2
            have HN2 := Lib.hid (show ∀ j', j' < q + 1 → st.has b j' = false from fun j' hj => by
              by_cases e : j' = q
              · subst e; exact hh
              · exact HN.out j' (by omega))
            clear hh
            go_wp2_with fail
            go_round
            case rel => exact ⟨q + 1, by omega, by go_num, HN2.out⟩
            case measure => simp [intOf]; omega
          | true =>
            rw [hh] at g2
            have HAN := Lib.hid (show (st.names.getD b []).any id = true from any_id.2 ⟨q, by rw [HLR.out]; exact hlt, hh⟩)
            clear hh
            exact absurd (HAN.out.symm.trans HCY.out) (by decide)
        · have HAN := Lib.hid (show (st.names.getD b []).any id = false from by
            refine Bool.eq_false_iff.2 fun hh => ?_
            obtain ⟨j, hj, e⟩ := any_id.1 hh
            rw [HLR.out] at hj
            have := HN.out j (by omega)
            unfold ESt.has at this
            rw [this] at e
            cases e)
          go_wp2_with fail
          refine bodyPost_end (results_none rfl _ _ _) rfl ⟨rfl, HO1.out, FrT.of_below HB1.out⟩
end Go.Proofs.Ytjmeignhhheckaa.H
namespace Go.Proofs.Ytjmeignhhheckaa.H
open Go.RowKit Go.Maps Go.Proofs.YtjmeignhhheckaaW.PrintWords Go.Proofs.YtjmeignhhheckaaW.PrintLast Go.Proofs.Ytjmeignhhheckaa.Q
set_option maxRecDepth 100000
def ownT (st : ESt) (u : Nat) (v : Vis) (l : List S41) : List S41 := if keptB st u v.2.2 then l ++ [⟨v.1, v.2.1⟩] else l
theorem ownT_len (st : ESt) (u : Nat) : ∀ (vis : List Vis) (l : List S41), (vis.foldl (fun l v => ownT st u v l) l).length ≤ l.length + vis.length
  | [], l => Nat.le_refl _
  | v :: r, l => by
    rw [List.foldl_cons]
    have := ownT_len st u r (ownT st u v l)
    have h2 : (ownT st u v l).length ≤ l.length + 1 := by unfold ownT; split <;> simp
    rw [List.length_cons]
    omega
theorem ownT_eq (st : ESt) (u : Nat) : ∀ (vis : List Vis) (l : List S41), vis.foldl (fun l v => ownT st u v l) l = l ++ (vis.filter fun v => keptB st u v.2.2).map fun v => (⟨v.1, v.2.1⟩ : S41)
  | [], l => by simp
  | v :: r, l => by
    rw [List.foldl_cons, ownT_eq st u r]
    unfold ownT
    by_cases h : keptB st u v.2.2 = true
    · rw [if_pos h]; simp [List.filter_cons, h]
    · rw [if_neg h]; simp [List.filter_cons, h]
theorem visB_len (n : Nat) (b : Bool) : ∀ (l : List S46) (k : Nat) (s : Bool), (visB n b k s l).length ≤ l.length
  | [], _, _ => Nat.le_refl _
  | i :: r, k, s => by
    rw [visB, List.length_append, List.length_cons]
    have := visB_len n b r (k + 1) (if i.f0 = 14 then false else s || i.f0 == 13)
    have h2 : (if (s || i.f0 == 13) && b then [(n, k, i)] else []).length ≤ 1 := by split <;> simp
    omega
theorem visN_len (reach ins : List Bool) : ∀ (bs : List S36) (n : Nat), (visN reach ins n bs).length ≤ insTotal bs
  | [], _ => Nat.le_refl _
  | x :: r, n => by
    rw [visN, List.length_append]
    have h1 := visB_len n (reach.getD n false) x.f0 0 (ins.getD n false)
    have h2 := visN_len reach ins r (n + 1)
    have : insTotal (x :: r) = x.f0.length + insTotal r := by simp [insTotal]
    omega
theorem own1_any (p : EP) (ok : EPok p) (st : ESt) (g4 g6 : Nat) (l : List S41) (hl : l.length ≤ 100000000) (n k : Nat) (i : S46) (hi : InsOk p n k i) (W : World) (h : OG p st g4 g6 l W) :
    Calls Try.prog 74 #[.agg #[.int .i64 n, .int .i64 k], .agg #[.int .u8 i.f0, .int .u8 i.f1, .int .i64 i.f2, .int .i64 i.f3, .int .i64 i.f4, .int .i64 i.f5], .pointer (some ⟨g4, 0, none⟩), .pointer (some ⟨g6, 0, none⟩)] W fun e w' => e = .returned (.tuple #[]) ∧ OG p st g4 g6 (ownT st p.u (n, k, i) l) w' ∧ FrT W w' := by
  unfold ownT keptB
  cases hm : isMem i with
  | false =>
    have := own1_no p ok st g4 g6 l n k i W h hm
    simp only [Bool.false_and, Bool.false_eq_true, if_false]
    exact this
  | true =>
    obtain ⟨f0, f1, f2, f3, f4, f5⟩ := i
    have hb := hi.b (.inr hm)
    dsimp only at hb ⊢
    obtain ⟨b, rfl⟩ := Int.eq_ofNat_of_zero_le hb.1
    simp only [Bool.true_and, Int.toNat_natCast]
    exact own1_yes p ok st g4 g6 l hl n k f0 f1 f2 f4 f5 b W h hm (by omega)
theorem each_own (p : EP) (ok : EPok p) (hI : ∀ n k i, (n, k, i) ∈ visits p.reach p.ins p.bs → InsOk p n k i) (ht : insTotal p.bs ≤ 8192) (st : ESt) (g4 g6 : Nat) (W : World) (h : OG p st g4 g6 [] W) :
    Calls Try.prog 73 #[.pointer (some ⟨p.gs, 0, none⟩), .func (.func 74) #[] #[.pointer (some ⟨g4, 0, none⟩), .pointer (some ⟨g6, 0, none⟩)]] W fun e w' => e = .returned (.tuple #[]) ∧ OG p st g4 g6 (((visits p.reach p.ins p.bs).filter fun v => keptB st p.u v.2.2).map fun v => (⟨v.1, v.2.1⟩ : S41)) w' ∧ FrT W w' := by
  have := each_any p ok 74 (.pointer (some ⟨g4, 0, none⟩)) (.pointer (some ⟨g6, 0, none⟩)) (OG p st g4 g6) (ownT st p.u) (fun l W h => ⟨st, h.es⟩) (fun l W W' h hb => h.below hb) []
    (fun pre post n k i l W hp hx hO => own1_any p ok st g4 g6 l (by
      have h1 := ownT_len st p.u pre []
      have h2 := visN_len p.reach p.ins p.bs 0
      have h3 : pre.length ≤ (visits p.reach p.ins p.bs).length := by rw [← hp]; simp
      unfold visits at h3
      rw [hx] at h1
      simp only [List.length_nil] at h1
      omega) n k i (hI n k i (by rw [← hp]; simp)) W hO) cf74 W h
  rw [ownT_eq, List.nil_append] at this
  exact this
theorem sites_ok {xs : List Bool} {sites : Int} {bs : List S36} (h : gE xs sites bs = 0) : 0 ≤ sites ∧ sites ≤ 8192 := by
  unfold gE at h
  by_cases hc : (checkS 65536 [⟨xs, sites, bs⟩]).2.2.2 = 0
  · unfold checkS at hc
    split at hc
    · cases hc
    split at hc
    · cases hc
    unfold goS at hc
    dsimp only at hc
    by_cases h0 : countsS xs sites bs = 0
    · unfold countsS at h0
      by_cases h1 : 1024 < xs.length ∨ 4096 < bs.length ∨ 8192 < sites ∨ 8192 < insTotal bs
      · rw [if_pos h1] at h0; cases h0
      · rw [if_neg h1] at h0
        by_cases h2 : bs.length = 0 ∨ sites < 0
        · rw [if_pos h2] at h0; cases h0
        · omega
    · rw [if_pos h0] at hc
      exact absurd hc h0
  · rw [if_neg hc] at h; cases h
theorem R_spots {W : World} {base b0 : Nat} {A : Option Addr} {c : Nat} {l : List S41} (h : W.ownsRow base 41 2 (.slice A l.length c) l.length (spC l)) (hb : b0 ≤ base) : Kd.R k41 41 W b0 (fun _ => True) (.slice A l.length c) l := by
  refine ⟨fun _ _ => trivial, spC l, ?_, ?_, ?_⟩
  · refine ⟨h.1, ?_⟩
    rcases h.2 with h | ⟨g, cap, cur, hv, hg, hr⟩
    · exact .inl h
    · exact .inr ⟨g, cap, cur, hv, Nat.le_trans hb hg, hr⟩
  · exact h.1
  · intro j x hj
    have : ∀ (l : List S41) (j : Nat), l[j]? = some x → ((spC l).drop (j * 2)).take 2 = [.int .i64 x.f0, .int .i64 x.f1] := by
      intro l
      induction l with
      | nil => intro j h; simp at h
      | cons y l ih =>
        intro j h
        cases j with
        | zero =>
          obtain rfl : y = x := by simpa using h
          simp [spC]
        | succ j =>
          have := ih j (by simpa using h)
          rw [show (j + 1) * 2 = j * 2 + 2 from by omega]
          have e : spC (y :: l) = [.int .i64 y.f0, .int .i64 y.f1] ++ spC l := by simp [spC]
          rw [e, show j * 2 + 2 = 2 + j * 2 from by omega, ← List.drop_drop]
          exact this
    have h2 := this l j hj
    show k41.M W b0 _ x (((spC l).drop (j * 2)).take 2)
    rw [h2]
    exact k41_mkM _ _ _ x
end Go.Proofs.Ytjmeignhhheckaa.H
namespace Go.Proofs.Ytjmeignhhheckaa.H
open Go.RowKit Go.Maps Go.Proofs.YtjmeignhhheckaaW.PrintWords Go.Proofs.YtjmeignhhheckaaW.PrintLast Go.Proofs.Ytjmeignhhheckaa.Q
set_option maxRecDepth 100000
theorem insOk_found {w : World} {A0 : Option Addr} {c0 : Nat} {l0 : List Bool} {u : Nat} {A2 : Option Addr} {c2 : Nat} {bs : List S36} {p : EP} (h : FoundE w A0 c0 l0 u A2 c2 bs p) (hE : gE l0 u bs = 0) : ∀ n k i, (n, k, i) ∈ visits p.reach p.ins p.bs → InsOk p n k i :=
  fun n k i hm => insOk_of p (by rw [h.e0, h.eu, h.eb]; exact hE) (by rw [h.rl, h.e0]) n k i hm
theorem own_yes (A0 A2 : Option Addr) (c0 c2 : Nat) (u : Nat) (l0 : List Bool) (bs : List S36) (w : World) (h0 : Kd.C Kd.bool w A0 l0.length l0) (hc0 : l0.length ≤ c0) (hC : Kd.C k36 w A2 bs.length bs) (hc : bs.length ≤ c2) (hs : smallG bs) (hE : gE l0 u bs = 0) (hu : u ≤ 8192) :
    Calls Try.prog 37 #[.agg #[.slice A0 l0.length c0, .int .i64 u, .slice A2 bs.length c2]] w fun e w' => ∃ v : Value, e = .returned (.tuple #[v, .int .i64 0]) ∧ Kd.R k41 41 w' w.heap.size (fun _ => True) v (((visits (reachS bs) (sidesOf bs).1 bs).filter fun x => keptB (foundS l0 u bs) u x.2.2).map fun x => (⟨x.1, x.2.1⟩ : S41)) ∧ Below w.heap.size w w' := by
  have hu25 := Try.underlying25
  have hu74 := Try.underlying74
  have hu121 := Try.underlying121
  have HB := Lib.hid (below_alloc (Below.refl w.heap.size w) (.cells #[.slice A0 l0.length c0, .int .i64 u, .slice A2 bs.length c2] 25))
  have HFO := Lib.hid (found_yes A0 A2 c0 c2 u l0 bs (w.alloc (.cells #[.slice A0 l0.length c0, .int .i64 u, .slice A2 bs.length c2] 25)) (Kd.C_below h0 HB.out) hc0 (Kd.C_below hC HB.out) hc hs hE hu)
  have HE := Lib.hid hE
  have HT := Lib.hid (gE_gok hE).tot
  clear h0 hC hE
  go_enter Try.func37, Try.ntmps37
  go_wp2_with (go_at_call 72; go_loud (refine HFO.out.mono ?_; rintro e w1 ⟨p, hF, rfl, hes⟩; have HF := Lib.hid hF; have HES := Lib.hid hes; have HO := Lib.hid (show OG p (foundS l0 u bs) w1.heap.size (w1.heap.size + 1) [] ((w1.alloc (.cells #[.pointer (some ⟨p.gs, 0, none⟩)] 121)).alloc (.cells #[.slice none 0 0] 74)) from by
    have h6 := blk_new (w1.alloc (.cells #[.pointer (some ⟨p.gs, 0, none⟩)] 121)) (.cells #[.slice none 0 0] 74)
    rw [World.size_alloc] at h6
    exact ⟨(hes.alloc _).alloc _, blk_alloc (blk_new w1 _) _, ⟨none, 0, h6, rfl, .inl ⟨rfl, rfl⟩⟩, by have := hes.b.size; omega⟩); clear hF hes))
  have HIO := Lib.hid (insOk_found HF.out HE.out)
  have HEA := Lib.hid (each_own p HF.out.ok HIO.out (by rw [HF.out.eb]; exact HT.out) (foundS l0 u bs) w1.heap.size (w1.heap.size + 1) _ HO.out)
  rw [HF.out.er, HF.out.ei, HF.out.eb, HF.out.eu] at HEA
  refine HEA.out.mono ?_
  rintro e w2 ⟨rfl, ho, _⟩
  obtain ⟨A6, c6, h6, ho6⟩ := ho.v6
  have HBZ := Lib.hid ho.es.b
  have HO6 := Lib.hid ho6
  have g6c := (blk_cell h6 0).trans rfl
  clear ho h6 ho6 HEA HO
  obtain ⟨res, hres⟩ : ∃ res, res = ((visits (reachS bs) (sidesOf bs).1 bs).filter fun x => keptB (foundS l0 u bs) u x.2.2).map (fun x => (⟨x.1, x.2.1⟩ : S41)) := ⟨_, rfl⟩
  rw [← hres] at HO6 g6c
  have HRES := Lib.hid hres
  clear hres
  go_wp2_with fail
  go_ret2
  have hb := HBZ.out
  rw [HF.out.w0] at hb
  have ho := HO6.out
  rw [HF.out.w0] at ho
  rw [← HRES.out]
  exact ⟨.slice A6 res.length c6, rfl, R_spots (b0 := w.heap.size) ho (by simp), below_step HB.out hb⟩
theorem own_no (A0 A2 : Option Addr) (c0 c2 : Nat) (a1 : Int) (l0 : List Bool) (bs : List S36) (w : World) (h0 : Kd.C Kd.bool w A0 l0.length l0) (hc0 : l0.length ≤ c0) (hC : Kd.C k36 w A2 bs.length bs) (hc : bs.length ≤ c2) (hs : smallG bs) (hE : ¬ gE l0 a1 bs = 0) :
    Calls Try.prog 37 #[.agg #[.slice A0 l0.length c0, .int .i64 a1, .slice A2 bs.length c2]] w fun e w' => e = .returned (.tuple #[.slice none 0 0, .int .i64 14]) ∧ Below w.heap.size w w' := by
  have hu25 := Try.underlying25
  have hu121 := Try.underlying121
  have HB := Lib.hid (below_alloc (Below.refl w.heap.size w) (.cells #[.slice A0 l0.length c0, .int .i64 a1, .slice A2 bs.length c2] 25))
  have HFO := Lib.hid (found_no A0 A2 c0 c2 a1 l0 bs (w.alloc (.cells #[.slice A0 l0.length c0, .int .i64 a1, .slice A2 bs.length c2] 25)) (Kd.C_below h0 HB.out) hc0 (Kd.C_below hC HB.out) hc hs hE)
  clear h0 hC hE
  go_enter Try.func37, Try.ntmps37
  go_wp2_with (go_at_call 72; go_loud (refine HFO.out.mono ?_; rintro e w1 ⟨rfl, hb⟩; have HB1 := Lib.hid (below_alloc (below_step HB.out hb) (.cells #[.pointer none] 121)); clear hb))
  go_ret2
  exact ⟨rfl, HB1.out⟩
theorem esc_yes (A0 A2 : Option Addr) (c0 c2 : Nat) (u : Nat) (l0 : List Bool) (bs : List S36) (w : World) (h0 : Kd.C Kd.bool w A0 l0.length l0) (hc0 : l0.length ≤ c0) (hC : Kd.C k36 w A2 bs.length bs) (hc : bs.length ≤ c2) (hs : smallG bs) (hE : gE l0 u bs = 0) (hu : u ≤ 8192) :
    Calls Try.prog 77 #[.agg #[.slice A0 l0.length c0, .int .i64 u, .slice A2 bs.length c2]] w fun e w' => ∃ v : Value, e = .returned (.tuple #[v, .int .i64 0]) ∧ Kd.R Kd.bool 4 w' w.heap.size (fun _ => True) v (foundS l0 u bs).gone ∧ Below w.heap.size w w' := by
  have hu25 := Try.underlying25
  have hu121 := Try.underlying121
  have HB := Lib.hid (below_alloc (Below.refl w.heap.size w) (.cells #[.slice A0 l0.length c0, .int .i64 u, .slice A2 bs.length c2] 25))
  have HFO := Lib.hid (found_yes A0 A2 c0 c2 u l0 bs (w.alloc (.cells #[.slice A0 l0.length c0, .int .i64 u, .slice A2 bs.length c2] 25)) (Kd.C_below h0 HB.out) hc0 (Kd.C_below hC HB.out) hc hs hE hu)
  clear h0 hC hE
  go_enter Try.func77, Try.ntmps77
  go_wp2_with (go_at_call 72; go_loud (refine HFO.out.mono ?_; rintro e w1 ⟨p, hF, rfl, hes⟩; have HF := Lib.hid hF; have HES := Lib.hid hes; have g6 := (blk_cell hes.s 6).trans rfl; clear hF hes))
  go_ret2
  have hb := HES.out.b
  rw [HF.out.w0] at hb
  have hgg := HF.out.ok.bgg
  rw [HF.out.w0, World.size_alloc] at hgg
  exact ⟨_, rfl, R_bools HES.out.g HES.out.ok.lg (by omega) trivial (by have := HF.out.ok.ub; omega), below_step HB.out hb⟩
theorem esc_no (A0 A2 : Option Addr) (c0 c2 : Nat) (a1 : Int) (l0 : List Bool) (bs : List S36) (w : World) (h0 : Kd.C Kd.bool w A0 l0.length l0) (hc0 : l0.length ≤ c0) (hC : Kd.C k36 w A2 bs.length bs) (hc : bs.length ≤ c2) (hs : smallG bs) (hE : ¬ gE l0 a1 bs = 0) :
    Calls Try.prog 77 #[.agg #[.slice A0 l0.length c0, .int .i64 a1, .slice A2 bs.length c2]] w fun e w' => e = .returned (.tuple #[.slice none 0 0, .int .i64 14]) ∧ Below w.heap.size w w' := by
  have hu25 := Try.underlying25
  have hu121 := Try.underlying121
  have HB := Lib.hid (below_alloc (Below.refl w.heap.size w) (.cells #[.slice A0 l0.length c0, .int .i64 a1, .slice A2 bs.length c2] 25))
  have HFO := Lib.hid (found_no A0 A2 c0 c2 a1 l0 bs (w.alloc (.cells #[.slice A0 l0.length c0, .int .i64 a1, .slice A2 bs.length c2] 25)) (Kd.C_below h0 HB.out) hc0 (Kd.C_below hC HB.out) hc hs hE)
  clear h0 hC hE
  go_enter Try.func77, Try.ntmps77
  go_wp2_with (go_at_call 72; go_loud (refine HFO.out.mono ?_; rintro e w1 ⟨rfl, hb⟩; have HB1 := Lib.hid (below_step HB.out hb); clear hb))
  go_ret2
  exact ⟨rfl, HB1.out⟩
end Go.Proofs.Ytjmeignhhheckaa.H
namespace Go.Proofs.Ytjmeignhhheckaa.Q
open Go.RowKit Go.Proofs.YtjmeignhhheckaaW.PrintWords Go.Proofs.YtjmeignhhheckaaW.PrintLast
/-- escape.Own, where no block is too long -/
def escape_Own.f (l0 : List Bool) (a1 : Int) (bs : List S36) : Option (List S41 × Int) := if H.smallG bs then some (H.ownS l0 a1 bs) else none
theorem escape_Own.calls (A0 : Option Addr) (c0 : Nat) (l0 : List Bool) (a1 : Int) (A2 : Option Addr) (c2 : Nat) (l2 : List S36) (r1 : List S41) (r2 : Int) (w : World) (h0 : Kd.C Kd.bool w A0 l0.length l0) (hc0 : l0.length ≤ c0) (h2 : Kd.C k36 w A2 l2.length l2) (hc2 : l2.length ≤ c2) (h : escape_Own.f l0 a1 l2 = some (r1, r2)) :
    Calls Try.prog 37 #[.agg #[.slice A0 l0.length c0, .int .i64 a1, .slice A2 l2.length c2]] w fun e w' => ∃ v0_ : Value, e = .returned (.tuple #[v0_, .int .i64 r2]) ∧ Kd.R k41 41 w' w.heap.size (fun _ => True) v0_ r1 ∧ Below w.heap.size w w' := by
  unfold escape_Own.f at h
  split at h
  · rename_i hs
    have h := Option.some.inj h
    unfold H.ownS at h
    by_cases hE : H.gE l0 a1 l2 = 0
    · rw [if_pos hE] at h
      obtain ⟨rfl, rfl⟩ := Prod.mk.inj h
      obtain ⟨hs0, hs1⟩ := H.sites_ok hE
      obtain ⟨u, rfl⟩ := Int.eq_ofNat_of_zero_le hs0
      rw [Int.toNat_natCast]
      exact H.own_yes A0 A2 c0 c2 u l0 l2 w h0 hc0 h2 hc2 hs hE (by omega)
    · rw [if_neg hE] at h
      obtain ⟨rfl, rfl⟩ := Prod.mk.inj h
      refine (H.own_no A0 A2 c0 c2 a1 l0 l2 w h0 hc0 h2 hc2 hs hE).mono ?_
      rintro e w' ⟨rfl, hb⟩
      exact ⟨_, rfl, Kd.R_nil _ _ _ _ _, hb⟩
  · cases h
/-- escape.Escaped, where no block is too long -/
def escape_Escaped.f (l0 : List Bool) (a1 : Int) (bs : List S36) : Option (List Bool × Int) := if H.smallG bs then some (H.escS l0 a1 bs) else none
theorem escape_Escaped.calls (A0 : Option Addr) (c0 : Nat) (l0 : List Bool) (a1 : Int) (A2 : Option Addr) (c2 : Nat) (l2 : List S36) (r1 : List Bool) (r2 : Int) (w : World) (h0 : Kd.C Kd.bool w A0 l0.length l0) (hc0 : l0.length ≤ c0) (h2 : Kd.C k36 w A2 l2.length l2) (hc2 : l2.length ≤ c2) (h : escape_Escaped.f l0 a1 l2 = some (r1, r2)) :
    Calls Try.prog 77 #[.agg #[.slice A0 l0.length c0, .int .i64 a1, .slice A2 l2.length c2]] w fun e w' => ∃ v0_ : Value, e = .returned (.tuple #[v0_, .int .i64 r2]) ∧ Kd.R Kd.bool 4 w' w.heap.size (fun _ => True) v0_ r1 ∧ Below w.heap.size w w' := by
  unfold escape_Escaped.f at h
  split at h
  · rename_i hs
    have h := Option.some.inj h
    unfold H.escS at h
    by_cases hE : H.gE l0 a1 l2 = 0
    · rw [if_pos hE] at h
      obtain ⟨rfl, rfl⟩ := Prod.mk.inj h
      obtain ⟨hs0, hs1⟩ := H.sites_ok hE
      obtain ⟨u, rfl⟩ := Int.eq_ofNat_of_zero_le hs0
      rw [Int.toNat_natCast]
      exact H.esc_yes A0 A2 c0 c2 u l0 l2 w h0 hc0 h2 hc2 hs hE (by omega)
    · rw [if_neg hE] at h
      obtain ⟨rfl, rfl⟩ := Prod.mk.inj h
      refine (H.esc_no A0 A2 c0 c2 a1 l0 l2 w h0 hc0 h2 hc2 hs hE).mono ?_
      rintro e w' ⟨rfl, hb⟩
      exact ⟨_, rfl, Kd.R_nil _ _ _ _ _, hb⟩
  · cases h
end Go.Proofs.Ytjmeignhhheckaa.Q
namespace Go.Proofs.Ytjmeignhhheckaa.Q
open Go.RowKit Go.Proofs.YtjmeignhhheckaaW.PrintWords Go.Proofs.YtjmeignhhheckaaW.PrintLast Go.Proofs.YtjmeignhhheckaaW.PrintMore
attribute [local go_sem] max2_int min2_int max_two min_two max_three min_three max_four min_four   -- for this text's walks alone
set_option linter.unusedVariables false
set_option linter.unusedSimpArgs false
def turnstilelaw15_within.f (l0 : List (S46)) : Option (List Bool × Int × (List (S36))) := (some (([(⟨13, 0, 0, 0, 0, 0⟩ : S46), (⟨7, 0, 0, 0, 0, 2⟩ : S46)] : List (S46)) : List (S46))).bind fun y102 => (if y102.length + l0.length < 3518437208883 then ((some (y102 ++ l0 : List (S46))).bind fun y105 => (if y105.length < 3518437208883 then (some ((([true, false, true] : List Bool)), 2, (([(⟨(y105 ++ [(⟨14, 0, 0, 0, 0, 0⟩ : S46)]), 3, 0, 0, 0⟩ : S36)] : List (S36))))) else (none))) else (none))
set_option maxHeartbeats 8000000 in
set_option maxRecDepth 100000 in
theorem turnstilelaw15_within.calls (A0 : Option Addr) (c0 : Nat) (l0 : List (S46)) (r1 : List Bool) (r2 : Int) (r3 : List (S36)) (w : World) (hr0 : Kd.C k46 w A0 l0.length l0) (hc0 : l0.length ≤ c0) (h : turnstilelaw15_within.f l0 = some (r1, r2, r3)) :
    Calls Try.prog 31 #[.slice A0 l0.length c0] w fun e w' => ∃ v0_ v2_ : Value, e = .returned (.agg #[v0_, .int .i64 r2, v2_]) ∧ Kd.R Kd.bool 4 w' w.heap.size (fun k_ => (w.heap.size ≤ k_)) v0_ r1 ∧ Kd.N k36 36 w' w.heap.size (fun k_ => (w.heap.size ≤ k_) ∧ some k_ ≠ (v0_ : Value).ownBlock) v2_ r3 ∧ Below w.heap.size w w' := by
  have hu25 := Try.underlying25
  have hu46 := Try.underlying46
  have hu36 := Try.underlying36
  have HR0 := Aside0.mk hr0
  have HC0 := Aside0.mk hc0
  clear hr0 hc0
  have HB := Aside0.mk (Below.refl w.heap.size w)
  have H : ((some (([(⟨13, 0, 0, 0, 0, 0⟩ : S46), (⟨7, 0, 0, 0, 0, 2⟩ : S46)] : List (S46)) : List (S46))).bind fun y102 => (if y102.length + l0.length < 3518437208883 then ((some (y102 ++ l0 : List (S46))).bind fun y105 => (if y105.length < 3518437208883 then (some ((([true, false, true] : List Bool)), 2, (([(⟨(y105 ++ [(⟨14, 0, 0, 0, 0, 0⟩ : S46)]), 3, 0, 0, 0⟩ : S36)] : List (S36))))) else (none))) else (none))) = some (r1, r2, r3) := h
  clear h
  obtain ⟨y102, hy102⟩ : ∃ y_ : List (S46), y_ = (([(⟨13, 0, 0, 0, 0, 0⟩ : S46), (⟨7, 0, 0, 0, 0, 2⟩ : S46)] : List (S46))) := ⟨_, rfl⟩
  replace H : (if y102.length + l0.length < 3518437208883 then ((some (y102 ++ l0 : List (S46))).bind fun y105 => (if y105.length < 3518437208883 then (some ((([true, false, true] : List Bool)), 2, (([(⟨(y105 ++ [(⟨14, 0, 0, 0, 0, 0⟩ : S46)]), 3, 0, 0, 0⟩ : S36)] : List (S36))))) else (none))) else (none)) = some (r1, r2, r3) := by first | (rw [hy102]; with_reducible exact H) | (have H2_ := (Option.bind_some _ _).symm.trans H; rw [hy102]; with_reducible exact H2_) | (have H2_ := (Option.bind_some _ _).symm.trans H; with_reducible exact H2_) | with_reducible exact H | (rw [hy102]; exact H) | exact H
  have Ny102 := Aside0.mk hy102
  clear hy102
  by_cases c2 : y102.length + l0.length < 3518437208883
  · rw [if_pos c2] at H
    have LMc2 := Aside0.mk c2
    clear c2
    obtain ⟨y105, hy105⟩ : ∃ y_ : List (S46), y_ = (y102 ++ l0) := ⟨_, rfl⟩
    replace H : (if y105.length < 3518437208883 then (some ((([true, false, true] : List Bool)), 2, (([(⟨(y105 ++ [(⟨14, 0, 0, 0, 0, 0⟩ : S46)]), 3, 0, 0, 0⟩ : S36)] : List (S36))))) else (none)) = some (r1, r2, r3) := by first | (rw [hy105]; with_reducible exact H) | (have H2_ := (Option.bind_some _ _).symm.trans H; rw [hy105]; with_reducible exact H2_) | (have H2_ := (Option.bind_some _ _).symm.trans H; with_reducible exact H2_) | with_reducible exact H | (rw [hy105]; exact H) | exact H
    have Ny105 := Aside0.mk hy105
    clear hy105
    obtain ⟨y108, hy108⟩ : ∃ y_ : List Bool, y_ = (([true, false, true] : List Bool)) := ⟨_, rfl⟩
    replace H : (if y105.length < 3518437208883 then (some (y108, 2, (([(⟨(y105 ++ [(⟨14, 0, 0, 0, 0, 0⟩ : S46)]), 3, 0, 0, 0⟩ : S36)] : List (S36))))) else (none)) = some (r1, r2, r3) := by first | (rw [hy108]; with_reducible exact H) | (have H2_ := (Option.bind_some _ _).symm.trans H; rw [hy108]; with_reducible exact H2_) | (have H2_ := (Option.bind_some _ _).symm.trans H; with_reducible exact H2_) | with_reducible exact H | (rw [hy108]; exact H) | exact H
    have Ny108 := Aside0.mk hy108
    clear hy108
    by_cases c3 : y105.length < 3518437208883
    · rw [if_pos c3] at H
      have LMc3 := Aside0.mk c3
      clear c3
      obtain ⟨y111, hy111⟩ : ∃ y_ : List (S46), y_ = (y105 ++ [(⟨14, 0, 0, 0, 0, 0⟩ : S46)]) := ⟨_, rfl⟩
      replace H : (some (y108, 2, (([(⟨y111, 3, 0, 0, 0⟩ : S36)] : List (S36))))) = some (r1, r2, r3) := by first | (rw [hy111]; with_reducible exact H) | (have H2_ := (Option.bind_some _ _).symm.trans H; rw [hy111]; with_reducible exact H2_) | (have H2_ := (Option.bind_some _ _).symm.trans H; with_reducible exact H2_) | with_reducible exact H | (rw [hy111]; exact H) | exact H
      have Ny111 := Aside0.mk hy111
      clear hy111
      obtain ⟨y114, hy114⟩ : ∃ y_ : List (S36), y_ = (([(⟨y111, 3, 0, 0, 0⟩ : S36)] : List (S36))) := ⟨_, rfl⟩
      replace H : (some (y108, 2, y114)) = some (r1, r2, r3) := by first | (rw [hy114]; with_reducible exact H) | (have H2_ := (Option.bind_some _ _).symm.trans H; rw [hy114]; with_reducible exact H2_) | (have H2_ := (Option.bind_some _ _).symm.trans H; with_reducible exact H2_) | with_reducible exact H | (rw [hy114]; exact H) | exact H
      have Ny114 := Aside0.mk hy114
      clear hy114
      simp only [Option.some.injEq, Prod.mk.injEq] at H
      obtain ⟨rfl, rfl, rfl⟩ := H
      go_enter Try.func31, Try.ntmps31
      go_wp2_with (first | ((with_reducible refine gate_dst (N := 2) rfl ?_); refine box_event ?hg (N := 2) ?hd (cs := #[.slice none 0 0, .int .i64 0, .slice none 0 0]) (t := 25) ?hr ?_; (case hd => rfl); (case hg => rfl); (case hr => first | (go_simp; done) | (go_simp; rfl)); intro gb101 hg w4 hbox hb; have n0_ := Aside0.mk (below_step (by repeat (first | (with_reducible first | exact HB.out | apply below_alloc | apply pw_below_drewN | apply below_drew1) | exact HB.out)) hb); have n1_ := Aside0.mk (hbox); have n2_ := Aside0.mk ((by rw [hg]; exact (below_size (by repeat (first | (with_reducible first | exact HB.out | apply below_alloc | apply pw_below_drewN | apply below_drew1) | exact HB.out))) : w.heap.size ≤ gb101)); have n3_ := Aside0.mk ((by rw [hg]; exact (below_size (by repeat (first | (with_reducible first | exact HB.out | apply below_alloc | apply pw_below_drewN | apply below_drew1) | exact HB.out))) : w.heap.size ≤ gb101)); clear HB; have HB := n0_; have BK101 := n1_; have GW101 := n2_; have GE101 := n3_; clear n0_ n1_ n2_ n3_; clear hb hbox hg) | ((with_reducible refine gate_dst (N := 6) rfl ?_); refine Kd.R_lit k46 _ 46 ?hg (N := 6) ?hd (xs := ([(⟨13, 0, 0, 0, 0, 0⟩ : S46), (⟨7, 0, 0, 0, 0, 2⟩ : S46)] : List (S46))) (inner := [.int .u8 13, .int .u8 0, .int .i64 0, .int .i64 0, .int .i64 0, .int .i64 0, .int .u8 7, .int .u8 0, .int .i64 0, .int .i64 0, .int .i64 0, .int .i64 2]) (ok := fun _ => True) (okp := fun _ => True) ?hr ?hp (fun _ hk => hk) trivial (Below.refl _ _) (Nat.le_refl _) (by simp) ?_; (case hd => rfl); (case hg => rfl); (case hr => first | (go_simp; done) | (go_simp; rfl)); (case hp => exact (Reps.c6 (show Kd.M k46 _ _ _ (⟨13, 0, 0, 0, 0, 0⟩ : S46) [.int .u8 13, .int .u8 0, .int .i64 0, .int .i64 0, .int .i64 0, .int .i64 0] from (k46_mkM _ _ _ (⟨13, 0, 0, 0, 0, 0⟩ : S46) )) (Reps.c6 (show Kd.M k46 _ _ _ (⟨7, 0, 0, 0, 0, 2⟩ : S46) [.int .u8 7, .int .u8 0, .int .i64 0, .int .i64 0, .int .i64 0, .int .i64 2] from (k46_mkM _ _ _ (⟨7, 0, 0, 0, 0, 2⟩ : S46) )) (Reps.none _ _)))); intro v103 w5 ho6 hb hg_ hnew_; clear hg_ hnew_; (first | rw [← Ny102.out] at ho6 | (simp only [Int.reduceToNat] at ho6; rw [← Ny102.out] at ho6)); have n0_ := Aside0.mk (Kd.R_lower (Kd.R_newM (M := fun k_ => (w.heap.size ≤ k_)) ho6 (below_size (by repeat (first | (with_reducible first | exact HB.out | apply below_alloc | apply pw_below_drewN | apply below_drew1 | refine below_set ?_ GE101.out) | exact HB.out))) (fun k_ h_ => h_)) (below_size (by repeat (first | (with_reducible first | exact HB.out | apply below_alloc | apply pw_below_drewN | apply below_drew1 | refine below_set ?_ GE101.out) | exact HB.out)))); have n1_ := Aside0.mk (blk_below (g := gb101) (o := .cells #[.slice none 0 0, .int .i64 0, .slice none 0 0] 25 (0, 0)) (by (with_reducible repeat (first | refine blk_drewN ?_ _ | refine blk_drew ?_ | refine blk_alloc ?_ _)); exact BK101.out) hb); have n2_ := Aside0.mk (below_step (by repeat (first | (with_reducible first | exact HB.out | apply below_alloc | apply pw_below_drewN | apply below_drew1 | refine below_set ?_ GE101.out) | exact HB.out)) hb); clear BK101; clear HB; have HO104 := n0_; have BK101 := n1_; have HB := n2_; clear n0_ n1_ n2_; clear hb ho6) | ((with_reducible refine gate_builtin (b := .append) (xs := #[.tmp 6, .tmp 7]) rfl ?_); at_builtin; refine Kd.R_append_rows k46 (w0 := w) w.heap.size rfl (.tmp 6) (.tmp 7) 33 46 (.agg #[(.int .u8 0), (.int .u8 0), (.int .i64 0), (.int .i64 0), (.int .i64 0), (.int .i64 0)]) 40 rfl Try.underlying33 info46 rfl (by decide) (by omega) v103 y102 l0 _ _ _ (fun k_ => (w.heap.size ≤ k_)) (fun _ => False) rfl rfl ?aO ?aR (fun _ _ h => h) (fun _ h => h.elim) ?aF ?aB ?aS ?aL ?_; (case aR => repeat (first | exact (Kd.C_below HR0.out HB.out) | (with_reducible refine Kd.C_alloc ?_ _) | (with_reducible refine Kd.C_drewN ?_ _) | (with_reducible refine Kd.C_drew ?_))); (case aB => exact (by repeat (first | (with_reducible first | exact HB.out | apply below_alloc | apply pw_below_drewN | apply below_drew1 | refine below_set ?_ GE101.out) | exact HB.out))); (case aF => exact (fun k_ hk => (Nat.le_trans (below_size (by repeat (first | (with_reducible first | exact HB.out | apply below_alloc | apply pw_below_drewN | apply below_drew1 | refine below_set ?_ GE101.out) | exact HB.out))) hk))); (case aO => exact (by (with_reducible repeat (first | apply Kd.R_alloc | apply Kd.R_drewN | apply Kd.R_drew)); exact Kd.R_mono HO104.out (fun _ hk => hk.1))); (case aS => exact (below_size (by repeat (first | (with_reducible first | exact HB.out | apply below_alloc | apply pw_below_drewN | apply below_drew1 | refine below_set ?_ GE101.out) | exact HB.out)))); (case aL => have := LMc2.out; omega); intro v106 w7 ho hb hg hat; rw [← Ny105.out] at ho; have n0_ := Aside0.mk (blk_grown (g := gb101) (o := .cells #[.slice none 0 0, .int .i64 0, .slice none 0 0] 25 (0, 0)) (by (with_reducible repeat (first | refine blk_drewN ?_ _ | refine blk_drew ?_ | refine blk_alloc ?_ _)); exact BK101.out) hg (Kd.R_ne HO104.out BK101.out (by decide))); have n1_ := Aside0.mk (hb); have n2_ := Aside0.mk (ho); clear BK101; clear HB; clear HO104; have BK101 := n0_; have HB := n1_; have HO107 := n2_; clear n0_ n1_ n2_; clear ho hb hg hat) | ((with_reducible refine gate_dst (N := 9) rfl ?_); refine Kd.R_lit Kd.bool _ 4 ?hg (N := 9) ?hd (xs := ([true, false, true] : List Bool)) (inner := [.bool true, .bool false, .bool true]) (ok := fun _ => True) (okp := fun _ => True) ?hr ?hp (fun _ hk => hk) trivial (Below.refl _ _) (Nat.le_refl _) (by simp) ?_; (case hd => rfl); (case hg => rfl); (case hr => first | (go_simp; done) | (go_simp; rfl)); (case hp => exact (Reps.one (show Kd.M Kd.bool _ _ _ true [.bool true] from rfl) (Reps.one (show Kd.M Kd.bool _ _ _ false [.bool false] from rfl) (Reps.one (show Kd.M Kd.bool _ _ _ true [.bool true] from rfl) (Reps.none _ _))))); intro v109 w8 ho9 hb hg_ hnew_; clear hg_ hnew_; (first | rw [← Ny108.out] at ho9 | (simp only [Int.reduceToNat] at ho9; rw [← Ny108.out] at ho9)); have n0_ := Aside0.mk (Kd.R_below (by (with_reducible repeat (first | apply Kd.R_alloc | apply Kd.R_drewN | apply Kd.R_drew)); exact HO107.out) hb); have n1_ := Aside0.mk (Kd.R_lower (Kd.R_newM (M := fun k_ => (w.heap.size ≤ k_)) ho9 (below_size (by repeat (first | (with_reducible first | exact HB.out | apply below_alloc | apply pw_below_drewN | apply below_drew1 | refine below_set ?_ GE101.out) | exact HB.out))) (fun k_ h_ => h_)) (below_size (by repeat (first | (with_reducible first | exact HB.out | apply below_alloc | apply pw_below_drewN | apply below_drew1 | refine below_set ?_ GE101.out) | exact HB.out)))); have n2_ := Aside0.mk (blk_below (g := gb101) (o := .cells #[.slice none 0 0, .int .i64 0, .slice none 0 0] 25 (0, 0)) (by (with_reducible repeat (first | refine blk_drewN ?_ _ | refine blk_drew ?_ | refine blk_alloc ?_ _)); exact BK101.out) hb); have n3_ := Aside0.mk (below_step (by repeat (first | (with_reducible first | exact HB.out | apply below_alloc | apply pw_below_drewN | apply below_drew1 | refine below_set ?_ GE101.out) | exact HB.out)) hb); clear HO107; clear BK101; clear HB; have HO107 := n0_; have HO110 := n1_; have BK101 := n2_; have HB := n3_; clear n0_ n1_ n2_ n3_; clear hb ho9) | ((with_reducible refine gate_builtin (b := .append) (xs := #[.tmp 10, .tmp 12]) rfl ?_); at_builtin; refine Kd.R_append k46 (w0 := w) w.heap.size rfl (.tmp 10) (.tmp 12) 33 46 (.agg #[(.int .u8 0), (.int .u8 0), (.int .i64 0), (.int .i64 0), (.int .i64 0), (.int .i64 0)]) 40 rfl Try.underlying33 info46 rfl (by decide) (by omega) v106 y105 (⟨14, 0, 0, 0, 0, 0⟩ : S46) [.int .u8 14, .int .u8 0, .int .i64 0, .int .i64 0, .int .i64 0, .int .i64 0] (fun k_ => (w.heap.size ≤ k_)) (fun _ => False) rfl rfl ?aP (fun _ hk => hk.elim) ?aF ?aO ?aB ?aS ?aL ?_; (case aP => exact k46_mkM _ _ _ (⟨14, 0, 0, 0, 0, 0⟩ : S46)); (case aB => exact (by repeat (first | (with_reducible first | exact HB.out | apply below_alloc | apply pw_below_drewN | apply below_drew1 | refine below_set ?_ GE101.out) | exact HB.out))); (case aF => exact (fun k_ hk => (Nat.le_trans (below_size (by repeat (first | (with_reducible first | exact HB.out | apply below_alloc | apply pw_below_drewN | apply below_drew1 | refine below_set ?_ GE101.out) | exact HB.out))) hk))); (case aO => exact (by (with_reducible repeat (first | apply Kd.R_alloc | apply Kd.R_drewN | apply Kd.R_drew)); exact HO107.out)); (case aS => exact (below_size (by repeat (first | (with_reducible first | exact HB.out | apply below_alloc | apply pw_below_drewN | apply below_drew1 | refine below_set ?_ GE101.out) | exact HB.out)))); (case aL => have := LMc3.out; omega); intro v112 w10 ho hb hg hat; rw [← Ny111.out] at ho; have n0_ := Aside0.mk (blk_grown (g := gb101) (o := .cells #[.slice none 0 0, .int .i64 0, .slice none 0 0] 25 (0, 0)) (by (with_reducible repeat (first | refine blk_drewN ?_ _ | refine blk_drew ?_ | refine blk_alloc ?_ _)); exact BK101.out) hg (Kd.R_ne HO107.out BK101.out (by decide))); have n1_ := Aside0.mk (Kd.R_over' (by (with_reducible repeat (first | apply Kd.R_alloc | apply Kd.R_drewN | apply Kd.R_drew)); exact HO110.out) (Kd.R_typed (by (with_reducible repeat (first | apply Kd.R_alloc | apply Kd.R_drewN | apply Kd.R_drew)); exact HO107.out)) (by decide) hg); have n2_ := Aside0.mk (hb); have n3_ := Aside0.mk (ho); clear BK101; clear HO110; clear HB; clear HO107; have BK101 := n0_; have HO110 := n1_; have HB := n2_; have HO113 := n3_; clear n0_ n1_ n2_ n3_; clear ho hb hg hat; obtain ⟨Ao11, co11, eo11⟩ := Kd.R_slice HO113.out; subst eo11) | ((with_reducible refine gate_dst (N := 15) rfl ?_); refine Kd.N_lit k36 _ 36 ?hg (N' := 15) ?hd (xs := ([(⟨y111, 3, 0, 0, 0⟩ : S36)] : List (S36))) (inner := [.slice Ao11 y111.length co11, .int .u8 3, .int .i64 0, .int .i64 0, .int .i64 0]) (ok := (fun k_ => (w.heap.size ≤ k_) ∧ some k_ ≠ (v109 : Value).ownBlock ∧ k_ ≠ gb101)) (okp := (fun k_ => (w.heap.size ≤ k_) ∧ some k_ ≠ (v109 : Value).ownBlock ∧ k_ ≠ gb101)) ?hr ?hp (fun _ hk => hk) ((show ∀ k_, w10.heap.size ≤ k_ → (fun k_ => (w.heap.size ≤ k_) ∧ some k_ ≠ (v109 : Value).ownBlock ∧ k_ ≠ gb101) k_ from fun k_ hk => ⟨(Nat.le_trans (below_size (by repeat (first | (with_reducible first | exact HB.out | apply below_alloc | apply pw_below_drewN | apply below_drew1 | refine below_set ?_ GE101.out) | exact HB.out))) hk), Kd.fresh' (Kd.R_lt (by (with_reducible repeat (first | apply Kd.R_alloc | apply Kd.R_drewN | apply Kd.R_drew)); exact HO110.out)) k_ hk, Kd.freshB (g := gb101) (o := .cells #[.slice none 0 0, .int .i64 0, .slice none 0 0] 25 (0, 0)) (by (with_reducible repeat (first | refine blk_drewN ?_ _ | refine blk_drew ?_ | refine blk_alloc ?_ _)); exact BK101.out) k_ hk⟩) _ (Nat.le_refl _)) (Below.refl _ _) (Nat.le_refl _) (by simp) ?_; (case hd => rfl); (case hg => rfl); (case hr => first | (go_simp; done) | (go_simp; rfl)); (case hp => exact (Reps.c5 (show Kd.FK k36 _ _ (⟨y111, 3, 0, 0, 0⟩ : S36) [.slice Ao11 y111.length co11, .int .u8 3, .int .i64 0, .int .i64 0, .int .i64 0] from (k36_mkF _ _ (⟨y111, 3, 0, 0, 0⟩ : S36) (Kd.R_reads' (Kd.R_mono (ok' := (fun k_ => (w.heap.size ≤ k_) ∧ some k_ ≠ (v109 : Value).ownBlock ∧ k_ ≠ gb101)) (Kd.R_types (Kd.R_apart' (HO113.out) (Kd.R_typed HO110.out) (by decide)) BK101.out (by decide)) (fun k_ hk => ⟨hk.1.1, ⟨hk.1.2, hk.2⟩⟩))).2.1 (Kd.R_F (Kd.R_mono (ok' := (fun k_ => (w.heap.size ≤ k_) ∧ some k_ ≠ (v109 : Value).ownBlock ∧ k_ ≠ gb101)) (Kd.R_types (Kd.R_apart' (HO113.out) (Kd.R_typed HO110.out) (by decide)) BK101.out (by decide)) (fun k_ hk => ⟨hk.1.1, ⟨hk.1.2, hk.2⟩⟩))))) (Reps.none _ _))); intro v115 w12 ho13 hb hg_ hnew_; clear hg_ hnew_; (first | rw [← Ny114.out] at ho13 | (simp only [Int.reduceToNat] at ho13; rw [← Ny114.out] at ho13)); have n0_ := Aside0.mk (Kd.R_below (by (with_reducible repeat (first | apply Kd.R_alloc | apply Kd.R_drewN | apply Kd.R_drew)); exact HO110.out) hb); have n1_ := Aside0.mk (Kd.N_lower ho13 (below_size (by repeat (first | (with_reducible first | exact HB.out | apply below_alloc | apply pw_below_drewN | apply below_drew1 | refine below_set ?_ GE101.out) | exact HB.out)))); have n2_ := Aside0.mk (blk_below (g := gb101) (o := .cells #[.slice none 0 0, .int .i64 0, .slice none 0 0] 25 (0, 0)) (by (with_reducible repeat (first | refine blk_drewN ?_ _ | refine blk_drew ?_ | refine blk_alloc ?_ _)); exact BK101.out) hb); have n3_ := Aside0.mk (below_step (by repeat (first | (with_reducible first | exact HB.out | apply below_alloc | apply pw_below_drewN | apply below_drew1 | refine below_set ?_ GE101.out) | exact HB.out)) hb); clear HO110; clear BK101; clear HB; clear HO113; have HO110 := n0_; have HO116 := n1_; have BK101 := n2_; have HB := n3_; clear n0_ n1_ n2_ n3_; clear hb ho13; obtain ⟨Ao14, co14, eo14⟩ := Kd.N_slice HO116.out; subst eo14; obtain ⟨Ao15, co15, eo15⟩ := Kd.R_slice HO110.out; subst eo15; have hcz16_0 : w12.cell? ⟨gb101, 0, none⟩ = some (.slice none 0 0) := (blk_cell BK101.out 0).trans rfl; have hcz16_1 : w12.cell? ⟨gb101, 1, none⟩ = some (.int .i64 0) := (blk_cell BK101.out 1).trans rfl; have hcz16_2 : w12.cell? ⟨gb101, 2, none⟩ = some (.slice none 0 0) := (blk_cell BK101.out 2).trans rfl; have hfz16_0 := blk_frozen BK101.out 0; have hfz16_1 := blk_frozen BK101.out 1; have hfz16_2 := blk_frozen BK101.out 2))
      refine bodyPost_ret (results_cell_row rfl _ _ gb101 25 #[.slice Ao15 y108.length co15, .int .i64 2, .slice Ao14 y114.length co14] (0, 0) _ rfl (by (with_reducible repeat (first | refine blk_drewN ?_ _ | refine blk_drew ?_ | refine blk_alloc ?_ _)); refine blk_put (cs := #[.slice Ao15 y108.length co15, .int .i64 2, .slice none 0 0]) ?_ 2 _ rfl; (with_reducible repeat (first | refine blk_drewN ?_ _ | refine blk_drew ?_ | refine blk_alloc ?_ _)); refine blk_put (cs := #[.slice Ao15 y108.length co15, .int .i64 0, .slice none 0 0]) ?_ 1 _ rfl; (with_reducible repeat (first | refine blk_drewN ?_ _ | refine blk_drew ?_ | refine blk_alloc ?_ _)); refine blk_put (cs := #[.slice none 0 0, .int .i64 0, .slice none 0 0]) ?_ 0 _ rfl; (with_reducible repeat (first | refine blk_drewN ?_ _ | refine blk_drew ?_ | refine blk_alloc ?_ _)); exact BK101.out) Try.underlying25 rfl (by kernel_rfl)) rfl ?_
      exact ⟨_, _, by first | rfl | (simp [errW_none, errW_some] <;> rfl) | (simp [*, errW_none, errW_some] <;> rfl), by (with_reducible repeat (first | apply Kd.R_alloc | apply Kd.R_drewN | apply Kd.R_drew)); exact Kd.R_mono (Kd.R_far (p := ⟨gb101, 2, none⟩) (Kd.R_far (p := ⟨gb101, 1, none⟩) (Kd.R_far (p := ⟨gb101, 0, none⟩) (Kd.R_types HO110.out BK101.out (by decide)) (fun _ hk => hk.2) (.slice Ao15 y108.length co15)) (fun _ hk => hk.2) (.int .i64 2)) (fun _ hk => hk.2) (.slice Ao14 y114.length co14)) (fun _ hk => hk.1.1), by (with_reducible repeat (first | apply Kd.N_alloc | apply Kd.N_drewN | apply Kd.N_drew)); exact Kd.N_mono (Kd.N_far (p := ⟨gb101, 2, none⟩) (Kd.N_far (p := ⟨gb101, 1, none⟩) (Kd.N_far (p := ⟨gb101, 0, none⟩) (Kd.N_mono HO116.out (fun k_ hk => (⟨hk, hk.2.2⟩ : _ ∧ k_ ≠ gb101))) (fun _ hk => hk.2) (.slice Ao15 y108.length co15)) (fun _ hk => hk.2) (.int .i64 2)) (fun _ hk => hk.2) (.slice Ao14 y114.length co14)) (fun _ hk => ⟨hk.1.1, hk.1.2.1⟩), by repeat (first | (with_reducible first | exact HB.out | apply below_alloc | apply pw_below_drewN | apply below_drew1 | refine below_set ?_ GE101.out) | exact HB.out)⟩
    · rw [if_neg c3] at H
      exact absurd H (by simp)
  · rw [if_neg c2] at H
    exact absurd H (by simp)
end Go.Proofs.Ytjmeignhhheckaa.Q
namespace Go.Proofs.Ytjmeignhhheckaa.Q
open Go.RowKit Go.Proofs.YtjmeignhhheckaaW.PrintWords Go.Proofs.YtjmeignhhheckaaW.PrintLast Go.Proofs.YtjmeignhhheckaaW.PrintMore
attribute [local go_sem] max2_int min2_int max_two min_two max_three min_three max_four min_four   -- for this text's walks alone
set_option linter.unusedVariables false
set_option linter.unusedSimpArgs false
def turnstilelaw15_move.f (a0 : Int) (a1 : Int) : Option (Int × Int × Int × Int × Int × Int) := some (2, 0, a0, a1, 0, 0)
set_option maxHeartbeats 8000000 in
set_option maxRecDepth 100000 in
theorem turnstilelaw15_move.calls (a0 : Int) (a1 : Int) (r1 : Int) (r2 : Int) (r3 : Int) (r4 : Int) (r5 : Int) (r6 : Int) (w : World) (h : turnstilelaw15_move.f a0 a1 = some (r1, r2, r3, r4, r5, r6)) :
    Calls Try.prog 32 #[.int .i64 a0, .int .i64 a1] w fun e w' => e = .returned (.agg #[.int .u8 r1, .int .u8 r2, .int .i64 r3, .int .i64 r4, .int .i64 r5, .int .i64 r6]) ∧ Below w.heap.size w w' := by
  have hu46 := Try.underlying46
  have HB := Aside0.mk (Below.refl w.heap.size w)
  have H : (some (2, 0, a0, a1, 0, 0)) = some (r1, r2, r3, r4, r5, r6) := h
  clear h
  simp only [Option.some.injEq, Prod.mk.injEq] at H
  obtain ⟨rfl, rfl, rfl, rfl, rfl, rfl⟩ := H
  go_enter Try.func32, Try.ntmps32
  go_wp2_with (first | ((with_reducible refine gate_dst (N := 4) rfl ?_); refine box_event ?hg (N := 4) ?hd (cs := #[.int .u8 0, .int .u8 0, .int .i64 0, .int .i64 0, .int .i64 0, .int .i64 0]) (t := 46) ?hr ?_; (case hd => rfl); (case hg => rfl); (case hr => first | (go_simp; done) | (go_simp; rfl)); intro gb117 hg w3 hbox hb; have n0_ := Aside0.mk (below_step (by repeat (first | (with_reducible first | exact HB.out | apply below_alloc | apply pw_below_drewN | apply below_drew1) | exact HB.out)) hb); have n1_ := Aside0.mk (hbox); have n2_ := Aside0.mk ((by rw [hg]; exact (below_size (by repeat (first | (with_reducible first | exact HB.out | apply below_alloc | apply pw_below_drewN | apply below_drew1) | exact HB.out))) : w.heap.size ≤ gb117)); have n3_ := Aside0.mk ((by rw [hg]; exact (below_size (by repeat (first | (with_reducible first | exact HB.out | apply below_alloc | apply pw_below_drewN | apply below_drew1) | exact HB.out))) : w.heap.size ≤ gb117)); clear HB; have HB := n0_; have BK117 := n1_; have GW117 := n2_; have GE117 := n3_; clear n0_ n1_ n2_ n3_; clear hb hbox hg; have hcz4_0 : w3.cell? ⟨gb117, 0, none⟩ = some (.int .u8 0) := (blk_cell BK117.out 0).trans rfl; have hcz4_1 : w3.cell? ⟨gb117, 1, none⟩ = some (.int .u8 0) := (blk_cell BK117.out 1).trans rfl; have hcz4_2 : w3.cell? ⟨gb117, 2, none⟩ = some (.int .i64 0) := (blk_cell BK117.out 2).trans rfl; have hcz4_3 : w3.cell? ⟨gb117, 3, none⟩ = some (.int .i64 0) := (blk_cell BK117.out 3).trans rfl; have hcz4_4 : w3.cell? ⟨gb117, 4, none⟩ = some (.int .i64 0) := (blk_cell BK117.out 4).trans rfl; have hcz4_5 : w3.cell? ⟨gb117, 5, none⟩ = some (.int .i64 0) := (blk_cell BK117.out 5).trans rfl; have hfz4_0 := blk_frozen BK117.out 0; have hfz4_1 := blk_frozen BK117.out 1; have hfz4_2 := blk_frozen BK117.out 2; have hfz4_3 := blk_frozen BK117.out 3; have hfz4_4 := blk_frozen BK117.out 4; have hfz4_5 := blk_frozen BK117.out 5))
  refine bodyPost_ret (results_cell_row rfl _ _ gb117 46 #[.int .u8 2, .int .u8 0, .int .i64 a0, .int .i64 a1, .int .i64 0, .int .i64 0] (0, 0) _ rfl (by (with_reducible repeat (first | refine blk_drewN ?_ _ | refine blk_drew ?_ | refine blk_alloc ?_ _)); refine blk_put (cs := #[.int .u8 2, .int .u8 0, .int .i64 a0, .int .i64 a1, .int .i64 0, .int .i64 0]) ?_ 5 _ rfl; (with_reducible repeat (first | refine blk_drewN ?_ _ | refine blk_drew ?_ | refine blk_alloc ?_ _)); refine blk_put (cs := #[.int .u8 2, .int .u8 0, .int .i64 a0, .int .i64 a1, .int .i64 0, .int .i64 0]) ?_ 4 _ rfl; (with_reducible repeat (first | refine blk_drewN ?_ _ | refine blk_drew ?_ | refine blk_alloc ?_ _)); refine blk_put (cs := #[.int .u8 2, .int .u8 0, .int .i64 a0, .int .i64 0, .int .i64 0, .int .i64 0]) ?_ 3 _ rfl; (with_reducible repeat (first | refine blk_drewN ?_ _ | refine blk_drew ?_ | refine blk_alloc ?_ _)); refine blk_put (cs := #[.int .u8 2, .int .u8 0, .int .i64 0, .int .i64 0, .int .i64 0, .int .i64 0]) ?_ 2 _ rfl; (with_reducible repeat (first | refine blk_drewN ?_ _ | refine blk_drew ?_ | refine blk_alloc ?_ _)); refine blk_put (cs := #[.int .u8 2, .int .u8 0, .int .i64 0, .int .i64 0, .int .i64 0, .int .i64 0]) ?_ 1 _ rfl; (with_reducible repeat (first | refine blk_drewN ?_ _ | refine blk_drew ?_ | refine blk_alloc ?_ _)); refine blk_put (cs := #[.int .u8 0, .int .u8 0, .int .i64 0, .int .i64 0, .int .i64 0, .int .i64 0]) ?_ 0 _ rfl; (with_reducible repeat (first | refine blk_drewN ?_ _ | refine blk_drew ?_ | refine blk_alloc ?_ _)); exact BK117.out) Try.underlying46 rfl (by kernel_rfl)) rfl ?_
  exact ⟨by first | rfl | (simp [errW_none, errW_some] <;> rfl) | (simp [*, errW_none, errW_some] <;> rfl), by repeat (first | (with_reducible first | exact HB.out | apply below_alloc | apply pw_below_drewN | apply below_drew1 | refine below_set ?_ GE117.out) | exact HB.out)⟩
end Go.Proofs.Ytjmeignhhheckaa.Q
namespace Go.Proofs.Ytjmeignhhheckaa.Q
open Go.RowKit Go.Proofs.YtjmeignhhheckaaW.PrintWords Go.Proofs.YtjmeignhhheckaaW.PrintLast Go.Proofs.YtjmeignhhheckaaW.PrintMore
attribute [local go_sem] max2_int min2_int max_two min_two max_three min_three max_four min_four   -- for this text's walks alone
set_option linter.unusedVariables false
set_option linter.unusedSimpArgs false
def turnstilelaw15_store.f (a0 : Int) (a1 : Int) : Option (Int × Int × Int × Int × Int × Int) := some (9, 0, a0, a1, (-1), 0)
set_option maxHeartbeats 8000000 in
set_option maxRecDepth 100000 in
theorem turnstilelaw15_store.calls (a0 : Int) (a1 : Int) (r1 : Int) (r2 : Int) (r3 : Int) (r4 : Int) (r5 : Int) (r6 : Int) (w : World) (h : turnstilelaw15_store.f a0 a1 = some (r1, r2, r3, r4, r5, r6)) :
    Calls Try.prog 33 #[.int .i64 a0, .int .i64 a1] w fun e w' => e = .returned (.agg #[.int .u8 r1, .int .u8 r2, .int .i64 r3, .int .i64 r4, .int .i64 r5, .int .i64 r6]) ∧ Below w.heap.size w w' := by
  have hu46 := Try.underlying46
  have HB := Aside0.mk (Below.refl w.heap.size w)
  have H : (some (9, 0, a0, a1, (-1), 0)) = some (r1, r2, r3, r4, r5, r6) := h
  clear h
  simp only [Option.some.injEq, Prod.mk.injEq] at H
  obtain ⟨rfl, rfl, rfl, rfl, rfl, rfl⟩ := H
  go_enter Try.func33, Try.ntmps33
  go_wp2_with (first | ((with_reducible refine gate_dst (N := 4) rfl ?_); refine box_event ?hg (N := 4) ?hd (cs := #[.int .u8 0, .int .u8 0, .int .i64 0, .int .i64 0, .int .i64 0, .int .i64 0]) (t := 46) ?hr ?_; (case hd => rfl); (case hg => rfl); (case hr => first | (go_simp; done) | (go_simp; rfl)); intro gb118 hg w3 hbox hb; have n0_ := Aside0.mk (below_step (by repeat (first | (with_reducible first | exact HB.out | apply below_alloc | apply pw_below_drewN | apply below_drew1) | exact HB.out)) hb); have n1_ := Aside0.mk (hbox); have n2_ := Aside0.mk ((by rw [hg]; exact (below_size (by repeat (first | (with_reducible first | exact HB.out | apply below_alloc | apply pw_below_drewN | apply below_drew1) | exact HB.out))) : w.heap.size ≤ gb118)); have n3_ := Aside0.mk ((by rw [hg]; exact (below_size (by repeat (first | (with_reducible first | exact HB.out | apply below_alloc | apply pw_below_drewN | apply below_drew1) | exact HB.out))) : w.heap.size ≤ gb118)); clear HB; have HB := n0_; have BK118 := n1_; have GW118 := n2_; have GE118 := n3_; clear n0_ n1_ n2_ n3_; clear hb hbox hg; have hcz4_0 : w3.cell? ⟨gb118, 0, none⟩ = some (.int .u8 0) := (blk_cell BK118.out 0).trans rfl; have hcz4_1 : w3.cell? ⟨gb118, 1, none⟩ = some (.int .u8 0) := (blk_cell BK118.out 1).trans rfl; have hcz4_2 : w3.cell? ⟨gb118, 2, none⟩ = some (.int .i64 0) := (blk_cell BK118.out 2).trans rfl; have hcz4_3 : w3.cell? ⟨gb118, 3, none⟩ = some (.int .i64 0) := (blk_cell BK118.out 3).trans rfl; have hcz4_4 : w3.cell? ⟨gb118, 4, none⟩ = some (.int .i64 0) := (blk_cell BK118.out 4).trans rfl; have hcz4_5 : w3.cell? ⟨gb118, 5, none⟩ = some (.int .i64 0) := (blk_cell BK118.out 5).trans rfl; have hfz4_0 := blk_frozen BK118.out 0; have hfz4_1 := blk_frozen BK118.out 1; have hfz4_2 := blk_frozen BK118.out 2; have hfz4_3 := blk_frozen BK118.out 3; have hfz4_4 := blk_frozen BK118.out 4; have hfz4_5 := blk_frozen BK118.out 5))
  refine bodyPost_ret (results_cell_row rfl _ _ gb118 46 #[.int .u8 9, .int .u8 0, .int .i64 a0, .int .i64 a1, .int .i64 (-1), .int .i64 0] (0, 0) _ rfl (by (with_reducible repeat (first | refine blk_drewN ?_ _ | refine blk_drew ?_ | refine blk_alloc ?_ _)); refine blk_put (cs := #[.int .u8 9, .int .u8 0, .int .i64 a0, .int .i64 a1, .int .i64 (-1), .int .i64 0]) ?_ 5 _ rfl; (with_reducible repeat (first | refine blk_drewN ?_ _ | refine blk_drew ?_ | refine blk_alloc ?_ _)); refine blk_put (cs := #[.int .u8 9, .int .u8 0, .int .i64 a0, .int .i64 a1, .int .i64 0, .int .i64 0]) ?_ 4 _ rfl; (with_reducible repeat (first | refine blk_drewN ?_ _ | refine blk_drew ?_ | refine blk_alloc ?_ _)); refine blk_put (cs := #[.int .u8 9, .int .u8 0, .int .i64 a0, .int .i64 0, .int .i64 0, .int .i64 0]) ?_ 3 _ rfl; (with_reducible repeat (first | refine blk_drewN ?_ _ | refine blk_drew ?_ | refine blk_alloc ?_ _)); refine blk_put (cs := #[.int .u8 9, .int .u8 0, .int .i64 0, .int .i64 0, .int .i64 0, .int .i64 0]) ?_ 2 _ rfl; (with_reducible repeat (first | refine blk_drewN ?_ _ | refine blk_drew ?_ | refine blk_alloc ?_ _)); refine blk_put (cs := #[.int .u8 9, .int .u8 0, .int .i64 0, .int .i64 0, .int .i64 0, .int .i64 0]) ?_ 1 _ rfl; (with_reducible repeat (first | refine blk_drewN ?_ _ | refine blk_drew ?_ | refine blk_alloc ?_ _)); refine blk_put (cs := #[.int .u8 0, .int .u8 0, .int .i64 0, .int .i64 0, .int .i64 0, .int .i64 0]) ?_ 0 _ rfl; (with_reducible repeat (first | refine blk_drewN ?_ _ | refine blk_drew ?_ | refine blk_alloc ?_ _)); exact BK118.out) Try.underlying46 rfl (by kernel_rfl)) rfl ?_
  exact ⟨by first | rfl | (simp [errW_none, errW_some] <;> rfl) | (simp [*, errW_none, errW_some] <;> rfl), by repeat (first | (with_reducible first | exact HB.out | apply below_alloc | apply pw_below_drewN | apply below_drew1 | refine below_set ?_ GE118.out) | exact HB.out)⟩
end Go.Proofs.Ytjmeignhhheckaa.Q
namespace Go.Proofs.Ytjmeignhhheckaa.Q
open Go.RowKit Go.Proofs.YtjmeignhhheckaaW.PrintWords Go.Proofs.YtjmeignhhheckaaW.PrintLast Go.Proofs.YtjmeignhhheckaaW.PrintMore
attribute [local go_sem] max2_int min2_int max_two min_two max_three min_three max_four min_four   -- for this text's walks alone
set_option linter.unusedVariables false
set_option linter.unusedSimpArgs false
def turnstilelaw15_load.f (a0 : Int) (a1 : Int) : Option (Int × Int × Int × Int × Int × Int) := some (8, 0, a0, a1, (-1), 0)
set_option maxHeartbeats 8000000 in
set_option maxRecDepth 100000 in
theorem turnstilelaw15_load.calls (a0 : Int) (a1 : Int) (r1 : Int) (r2 : Int) (r3 : Int) (r4 : Int) (r5 : Int) (r6 : Int) (w : World) (h : turnstilelaw15_load.f a0 a1 = some (r1, r2, r3, r4, r5, r6)) :
    Calls Try.prog 34 #[.int .i64 a0, .int .i64 a1] w fun e w' => e = .returned (.agg #[.int .u8 r1, .int .u8 r2, .int .i64 r3, .int .i64 r4, .int .i64 r5, .int .i64 r6]) ∧ Below w.heap.size w w' := by
  have hu46 := Try.underlying46
  have HB := Aside0.mk (Below.refl w.heap.size w)
  have H : (some (8, 0, a0, a1, (-1), 0)) = some (r1, r2, r3, r4, r5, r6) := h
  clear h
  simp only [Option.some.injEq, Prod.mk.injEq] at H
  obtain ⟨rfl, rfl, rfl, rfl, rfl, rfl⟩ := H
  go_enter Try.func34, Try.ntmps34
  go_wp2_with (first | ((with_reducible refine gate_dst (N := 4) rfl ?_); refine box_event ?hg (N := 4) ?hd (cs := #[.int .u8 0, .int .u8 0, .int .i64 0, .int .i64 0, .int .i64 0, .int .i64 0]) (t := 46) ?hr ?_; (case hd => rfl); (case hg => rfl); (case hr => first | (go_simp; done) | (go_simp; rfl)); intro gb119 hg w3 hbox hb; have n0_ := Aside0.mk (below_step (by repeat (first | (with_reducible first | exact HB.out | apply below_alloc | apply pw_below_drewN | apply below_drew1) | exact HB.out)) hb); have n1_ := Aside0.mk (hbox); have n2_ := Aside0.mk ((by rw [hg]; exact (below_size (by repeat (first | (with_reducible first | exact HB.out | apply below_alloc | apply pw_below_drewN | apply below_drew1) | exact HB.out))) : w.heap.size ≤ gb119)); have n3_ := Aside0.mk ((by rw [hg]; exact (below_size (by repeat (first | (with_reducible first | exact HB.out | apply below_alloc | apply pw_below_drewN | apply below_drew1) | exact HB.out))) : w.heap.size ≤ gb119)); clear HB; have HB := n0_; have BK119 := n1_; have GW119 := n2_; have GE119 := n3_; clear n0_ n1_ n2_ n3_; clear hb hbox hg; have hcz4_0 : w3.cell? ⟨gb119, 0, none⟩ = some (.int .u8 0) := (blk_cell BK119.out 0).trans rfl; have hcz4_1 : w3.cell? ⟨gb119, 1, none⟩ = some (.int .u8 0) := (blk_cell BK119.out 1).trans rfl; have hcz4_2 : w3.cell? ⟨gb119, 2, none⟩ = some (.int .i64 0) := (blk_cell BK119.out 2).trans rfl; have hcz4_3 : w3.cell? ⟨gb119, 3, none⟩ = some (.int .i64 0) := (blk_cell BK119.out 3).trans rfl; have hcz4_4 : w3.cell? ⟨gb119, 4, none⟩ = some (.int .i64 0) := (blk_cell BK119.out 4).trans rfl; have hcz4_5 : w3.cell? ⟨gb119, 5, none⟩ = some (.int .i64 0) := (blk_cell BK119.out 5).trans rfl; have hfz4_0 := blk_frozen BK119.out 0; have hfz4_1 := blk_frozen BK119.out 1; have hfz4_2 := blk_frozen BK119.out 2; have hfz4_3 := blk_frozen BK119.out 3; have hfz4_4 := blk_frozen BK119.out 4; have hfz4_5 := blk_frozen BK119.out 5))
  refine bodyPost_ret (results_cell_row rfl _ _ gb119 46 #[.int .u8 8, .int .u8 0, .int .i64 a0, .int .i64 a1, .int .i64 (-1), .int .i64 0] (0, 0) _ rfl (by (with_reducible repeat (first | refine blk_drewN ?_ _ | refine blk_drew ?_ | refine blk_alloc ?_ _)); refine blk_put (cs := #[.int .u8 8, .int .u8 0, .int .i64 a0, .int .i64 a1, .int .i64 (-1), .int .i64 0]) ?_ 5 _ rfl; (with_reducible repeat (first | refine blk_drewN ?_ _ | refine blk_drew ?_ | refine blk_alloc ?_ _)); refine blk_put (cs := #[.int .u8 8, .int .u8 0, .int .i64 a0, .int .i64 a1, .int .i64 0, .int .i64 0]) ?_ 4 _ rfl; (with_reducible repeat (first | refine blk_drewN ?_ _ | refine blk_drew ?_ | refine blk_alloc ?_ _)); refine blk_put (cs := #[.int .u8 8, .int .u8 0, .int .i64 a0, .int .i64 0, .int .i64 0, .int .i64 0]) ?_ 3 _ rfl; (with_reducible repeat (first | refine blk_drewN ?_ _ | refine blk_drew ?_ | refine blk_alloc ?_ _)); refine blk_put (cs := #[.int .u8 8, .int .u8 0, .int .i64 0, .int .i64 0, .int .i64 0, .int .i64 0]) ?_ 2 _ rfl; (with_reducible repeat (first | refine blk_drewN ?_ _ | refine blk_drew ?_ | refine blk_alloc ?_ _)); refine blk_put (cs := #[.int .u8 8, .int .u8 0, .int .i64 0, .int .i64 0, .int .i64 0, .int .i64 0]) ?_ 1 _ rfl; (with_reducible repeat (first | refine blk_drewN ?_ _ | refine blk_drew ?_ | refine blk_alloc ?_ _)); refine blk_put (cs := #[.int .u8 0, .int .u8 0, .int .i64 0, .int .i64 0, .int .i64 0, .int .i64 0]) ?_ 0 _ rfl; (with_reducible repeat (first | refine blk_drewN ?_ _ | refine blk_drew ?_ | refine blk_alloc ?_ _)); exact BK119.out) Try.underlying46 rfl (by kernel_rfl)) rfl ?_
  exact ⟨by first | rfl | (simp [errW_none, errW_some] <;> rfl) | (simp [*, errW_none, errW_some] <;> rfl), by repeat (first | (with_reducible first | exact HB.out | apply below_alloc | apply pw_below_drewN | apply below_drew1 | refine below_set ?_ GE119.out) | exact HB.out)⟩
end Go.Proofs.Ytjmeignhhheckaa.Q
namespace Go.Proofs.Ytjmeignhhheckaa.Q
open Go.RowKit Go.Proofs.YtjmeignhhheckaaW.PrintWords Go.Proofs.YtjmeignhhheckaaW.PrintLast Go.Proofs.YtjmeignhhheckaaW.PrintMore
attribute [local go_sem] max2_int min2_int max_two min_two max_three min_three max_four min_four   -- for this text's walks alone
set_option linter.unusedVariables false
set_option linter.unusedSimpArgs false
def turnstilelaw15_shared.f (a0 : Int) : Option (Int × Int × Int × Int × Int × Int) := some (6, 0, a0, 0, 0, 1)
set_option maxHeartbeats 8000000 in
set_option maxRecDepth 100000 in
theorem turnstilelaw15_shared.calls (a0 : Int) (r1 : Int) (r2 : Int) (r3 : Int) (r4 : Int) (r5 : Int) (r6 : Int) (w : World) (h : turnstilelaw15_shared.f a0 = some (r1, r2, r3, r4, r5, r6)) :
    Calls Try.prog 35 #[.int .i64 a0] w fun e w' => e = .returned (.agg #[.int .u8 r1, .int .u8 r2, .int .i64 r3, .int .i64 r4, .int .i64 r5, .int .i64 r6]) ∧ Below w.heap.size w w' := by
  have hu46 := Try.underlying46
  have HB := Aside0.mk (Below.refl w.heap.size w)
  have H : (some (6, 0, a0, 0, 0, 1)) = some (r1, r2, r3, r4, r5, r6) := h
  clear h
  simp only [Option.some.injEq, Prod.mk.injEq] at H
  obtain ⟨rfl, rfl, rfl, rfl, rfl, rfl⟩ := H
  go_enter Try.func35, Try.ntmps35
  go_wp2_with (first | ((with_reducible refine gate_dst (N := 2) rfl ?_); refine box_event ?hg (N := 2) ?hd (cs := #[.int .u8 0, .int .u8 0, .int .i64 0, .int .i64 0, .int .i64 0, .int .i64 0]) (t := 46) ?hr ?_; (case hd => rfl); (case hg => rfl); (case hr => first | (go_simp; done) | (go_simp; rfl)); intro gb120 hg w2 hbox hb; have n0_ := Aside0.mk (below_step (by repeat (first | (with_reducible first | exact HB.out | apply below_alloc | apply pw_below_drewN | apply below_drew1) | exact HB.out)) hb); have n1_ := Aside0.mk (hbox); have n2_ := Aside0.mk ((by rw [hg]; exact (below_size (by repeat (first | (with_reducible first | exact HB.out | apply below_alloc | apply pw_below_drewN | apply below_drew1) | exact HB.out))) : w.heap.size ≤ gb120)); have n3_ := Aside0.mk ((by rw [hg]; exact (below_size (by repeat (first | (with_reducible first | exact HB.out | apply below_alloc | apply pw_below_drewN | apply below_drew1) | exact HB.out))) : w.heap.size ≤ gb120)); clear HB; have HB := n0_; have BK120 := n1_; have GW120 := n2_; have GE120 := n3_; clear n0_ n1_ n2_ n3_; clear hb hbox hg; have hcz3_0 : w2.cell? ⟨gb120, 0, none⟩ = some (.int .u8 0) := (blk_cell BK120.out 0).trans rfl; have hcz3_1 : w2.cell? ⟨gb120, 1, none⟩ = some (.int .u8 0) := (blk_cell BK120.out 1).trans rfl; have hcz3_2 : w2.cell? ⟨gb120, 2, none⟩ = some (.int .i64 0) := (blk_cell BK120.out 2).trans rfl; have hcz3_3 : w2.cell? ⟨gb120, 3, none⟩ = some (.int .i64 0) := (blk_cell BK120.out 3).trans rfl; have hcz3_4 : w2.cell? ⟨gb120, 4, none⟩ = some (.int .i64 0) := (blk_cell BK120.out 4).trans rfl; have hcz3_5 : w2.cell? ⟨gb120, 5, none⟩ = some (.int .i64 0) := (blk_cell BK120.out 5).trans rfl; have hfz3_0 := blk_frozen BK120.out 0; have hfz3_1 := blk_frozen BK120.out 1; have hfz3_2 := blk_frozen BK120.out 2; have hfz3_3 := blk_frozen BK120.out 3; have hfz3_4 := blk_frozen BK120.out 4; have hfz3_5 := blk_frozen BK120.out 5))
  refine bodyPost_ret (results_cell_row rfl _ _ gb120 46 #[.int .u8 6, .int .u8 0, .int .i64 a0, .int .i64 0, .int .i64 0, .int .i64 1] (0, 0) _ rfl (by (with_reducible repeat (first | refine blk_drewN ?_ _ | refine blk_drew ?_ | refine blk_alloc ?_ _)); refine blk_put (cs := #[.int .u8 6, .int .u8 0, .int .i64 a0, .int .i64 0, .int .i64 0, .int .i64 0]) ?_ 5 _ rfl; (with_reducible repeat (first | refine blk_drewN ?_ _ | refine blk_drew ?_ | refine blk_alloc ?_ _)); refine blk_put (cs := #[.int .u8 6, .int .u8 0, .int .i64 a0, .int .i64 0, .int .i64 0, .int .i64 0]) ?_ 4 _ rfl; (with_reducible repeat (first | refine blk_drewN ?_ _ | refine blk_drew ?_ | refine blk_alloc ?_ _)); refine blk_put (cs := #[.int .u8 6, .int .u8 0, .int .i64 a0, .int .i64 0, .int .i64 0, .int .i64 0]) ?_ 3 _ rfl; (with_reducible repeat (first | refine blk_drewN ?_ _ | refine blk_drew ?_ | refine blk_alloc ?_ _)); refine blk_put (cs := #[.int .u8 6, .int .u8 0, .int .i64 0, .int .i64 0, .int .i64 0, .int .i64 0]) ?_ 2 _ rfl; (with_reducible repeat (first | refine blk_drewN ?_ _ | refine blk_drew ?_ | refine blk_alloc ?_ _)); refine blk_put (cs := #[.int .u8 6, .int .u8 0, .int .i64 0, .int .i64 0, .int .i64 0, .int .i64 0]) ?_ 1 _ rfl; (with_reducible repeat (first | refine blk_drewN ?_ _ | refine blk_drew ?_ | refine blk_alloc ?_ _)); refine blk_put (cs := #[.int .u8 0, .int .u8 0, .int .i64 0, .int .i64 0, .int .i64 0, .int .i64 0]) ?_ 0 _ rfl; (with_reducible repeat (first | refine blk_drewN ?_ _ | refine blk_drew ?_ | refine blk_alloc ?_ _)); exact BK120.out) Try.underlying46 rfl (by kernel_rfl)) rfl ?_
  exact ⟨by first | rfl | (simp [errW_none, errW_some] <;> rfl) | (simp [*, errW_none, errW_some] <;> rfl), by repeat (first | (with_reducible first | exact HB.out | apply below_alloc | apply pw_below_drewN | apply below_drew1 | refine below_set ?_ GE120.out) | exact HB.out)⟩
end Go.Proofs.Ytjmeignhhheckaa.Q
namespace Go.Proofs.Ytjmeignhhheckaa.Q
open Go.RowKit Go.Proofs.YtjmeignhhheckaaW.PrintWords Go.Proofs.YtjmeignhhheckaaW.PrintLast Go.Proofs.YtjmeignhhheckaaW.PrintMore
attribute [local go_sem] max2_int min2_int max_two min_two max_three min_three max_four min_four   -- for this text's walks alone
set_option linter.unusedVariables false
set_option linter.unusedSimpArgs false
def turnstilelaw15_made.f (a0 : Int) (a1 : Int) : Option (Int × Int × Int × Int × Int × Int) := some (7, 0, a0, 0, a1, 1)
set_option maxHeartbeats 8000000 in
set_option maxRecDepth 100000 in
theorem turnstilelaw15_made.calls (a0 : Int) (a1 : Int) (r1 : Int) (r2 : Int) (r3 : Int) (r4 : Int) (r5 : Int) (r6 : Int) (w : World) (h : turnstilelaw15_made.f a0 a1 = some (r1, r2, r3, r4, r5, r6)) :
    Calls Try.prog 36 #[.int .i64 a0, .int .i64 a1] w fun e w' => e = .returned (.agg #[.int .u8 r1, .int .u8 r2, .int .i64 r3, .int .i64 r4, .int .i64 r5, .int .i64 r6]) ∧ Below w.heap.size w w' := by
  have hu46 := Try.underlying46
  have HB := Aside0.mk (Below.refl w.heap.size w)
  have H : (some (7, 0, a0, 0, a1, 1)) = some (r1, r2, r3, r4, r5, r6) := h
  clear h
  simp only [Option.some.injEq, Prod.mk.injEq] at H
  obtain ⟨rfl, rfl, rfl, rfl, rfl, rfl⟩ := H
  go_enter Try.func36, Try.ntmps36
  go_wp2_with (first | ((with_reducible refine gate_dst (N := 4) rfl ?_); refine box_event ?hg (N := 4) ?hd (cs := #[.int .u8 0, .int .u8 0, .int .i64 0, .int .i64 0, .int .i64 0, .int .i64 0]) (t := 46) ?hr ?_; (case hd => rfl); (case hg => rfl); (case hr => first | (go_simp; done) | (go_simp; rfl)); intro gb121 hg w3 hbox hb; have n0_ := Aside0.mk (below_step (by repeat (first | (with_reducible first | exact HB.out | apply below_alloc | apply pw_below_drewN | apply below_drew1) | exact HB.out)) hb); have n1_ := Aside0.mk (hbox); have n2_ := Aside0.mk ((by rw [hg]; exact (below_size (by repeat (first | (with_reducible first | exact HB.out | apply below_alloc | apply pw_below_drewN | apply below_drew1) | exact HB.out))) : w.heap.size ≤ gb121)); have n3_ := Aside0.mk ((by rw [hg]; exact (below_size (by repeat (first | (with_reducible first | exact HB.out | apply below_alloc | apply pw_below_drewN | apply below_drew1) | exact HB.out))) : w.heap.size ≤ gb121)); clear HB; have HB := n0_; have BK121 := n1_; have GW121 := n2_; have GE121 := n3_; clear n0_ n1_ n2_ n3_; clear hb hbox hg; have hcz4_0 : w3.cell? ⟨gb121, 0, none⟩ = some (.int .u8 0) := (blk_cell BK121.out 0).trans rfl; have hcz4_1 : w3.cell? ⟨gb121, 1, none⟩ = some (.int .u8 0) := (blk_cell BK121.out 1).trans rfl; have hcz4_2 : w3.cell? ⟨gb121, 2, none⟩ = some (.int .i64 0) := (blk_cell BK121.out 2).trans rfl; have hcz4_3 : w3.cell? ⟨gb121, 3, none⟩ = some (.int .i64 0) := (blk_cell BK121.out 3).trans rfl; have hcz4_4 : w3.cell? ⟨gb121, 4, none⟩ = some (.int .i64 0) := (blk_cell BK121.out 4).trans rfl; have hcz4_5 : w3.cell? ⟨gb121, 5, none⟩ = some (.int .i64 0) := (blk_cell BK121.out 5).trans rfl; have hfz4_0 := blk_frozen BK121.out 0; have hfz4_1 := blk_frozen BK121.out 1; have hfz4_2 := blk_frozen BK121.out 2; have hfz4_3 := blk_frozen BK121.out 3; have hfz4_4 := blk_frozen BK121.out 4; have hfz4_5 := blk_frozen BK121.out 5))
  refine bodyPost_ret (results_cell_row rfl _ _ gb121 46 #[.int .u8 7, .int .u8 0, .int .i64 a0, .int .i64 0, .int .i64 a1, .int .i64 1] (0, 0) _ rfl (by (with_reducible repeat (first | refine blk_drewN ?_ _ | refine blk_drew ?_ | refine blk_alloc ?_ _)); refine blk_put (cs := #[.int .u8 7, .int .u8 0, .int .i64 a0, .int .i64 0, .int .i64 a1, .int .i64 0]) ?_ 5 _ rfl; (with_reducible repeat (first | refine blk_drewN ?_ _ | refine blk_drew ?_ | refine blk_alloc ?_ _)); refine blk_put (cs := #[.int .u8 7, .int .u8 0, .int .i64 a0, .int .i64 0, .int .i64 0, .int .i64 0]) ?_ 4 _ rfl; (with_reducible repeat (first | refine blk_drewN ?_ _ | refine blk_drew ?_ | refine blk_alloc ?_ _)); refine blk_put (cs := #[.int .u8 7, .int .u8 0, .int .i64 a0, .int .i64 0, .int .i64 0, .int .i64 0]) ?_ 3 _ rfl; (with_reducible repeat (first | refine blk_drewN ?_ _ | refine blk_drew ?_ | refine blk_alloc ?_ _)); refine blk_put (cs := #[.int .u8 7, .int .u8 0, .int .i64 0, .int .i64 0, .int .i64 0, .int .i64 0]) ?_ 2 _ rfl; (with_reducible repeat (first | refine blk_drewN ?_ _ | refine blk_drew ?_ | refine blk_alloc ?_ _)); refine blk_put (cs := #[.int .u8 7, .int .u8 0, .int .i64 0, .int .i64 0, .int .i64 0, .int .i64 0]) ?_ 1 _ rfl; (with_reducible repeat (first | refine blk_drewN ?_ _ | refine blk_drew ?_ | refine blk_alloc ?_ _)); refine blk_put (cs := #[.int .u8 0, .int .u8 0, .int .i64 0, .int .i64 0, .int .i64 0, .int .i64 0]) ?_ 0 _ rfl; (with_reducible repeat (first | refine blk_drewN ?_ _ | refine blk_drew ?_ | refine blk_alloc ?_ _)); exact BK121.out) Try.underlying46 rfl (by kernel_rfl)) rfl ?_
  exact ⟨by first | rfl | (simp [errW_none, errW_some] <;> rfl) | (simp [*, errW_none, errW_some] <;> rfl), by repeat (first | (with_reducible first | exact HB.out | apply below_alloc | apply pw_below_drewN | apply below_drew1 | refine below_set ?_ GE121.out) | exact HB.out)⟩
end Go.Proofs.Ytjmeignhhheckaa.Q
namespace Go.Proofs.Ytjmeignhhheckaa.Q
open Go.RowKit Go.Proofs.YtjmeignhhheckaaW.PrintWords Go.Proofs.YtjmeignhhheckaaW.PrintLast Go.Proofs.YtjmeignhhheckaaW.PrintMore
attribute [local go_sem] max2_int min2_int max_two min_two max_three min_three max_four min_four   -- for this text's walks alone
set_option linter.unusedVariables false
set_option linter.unusedSimpArgs false
def turnstilelaw15_kept.f (l0_0 : List Bool) (a0_1 : Int) (l0_2 : List (S36)) : Option (Int) := (escape_Own.f l0_0 a0_1 l0_2).bind fun bt210 => (if bt210.2 = 0 then (some (bt210.1.length : Int)) else (some (-1)))
set_option maxHeartbeats 8000000 in
set_option maxRecDepth 100000 in
theorem turnstilelaw15_kept.calls (A0_0 : Option Addr) (c0_0 : Nat) (l0_0 : List Bool) (a0_1 : Int) (A0_2 : Option Addr) (c0_2 : Nat) (l0_2 : List (S36)) (r : Int) (w : World) (hr0_0 : Kd.C Kd.bool w A0_0 l0_0.length l0_0) (hc0_0 : l0_0.length ≤ c0_0) (hr0_2 : Kd.C k36 w A0_2 l0_2.length l0_2) (hc0_2 : l0_2.length ≤ c0_2) (h : turnstilelaw15_kept.f l0_0 a0_1 l0_2 = some r) :
    Calls Try.prog 39 #[.agg #[.slice A0_0 l0_0.length c0_0, .int .i64 a0_1, .slice A0_2 l0_2.length c0_2]] w fun e w' => e = .returned (.int .i64 r) ∧ Below w.heap.size w w' := by
  have hu25 := Try.underlying25
  have HR0_0 := Aside0.mk hr0_0
  have HC0_0 := Aside0.mk hc0_0
  clear hr0_0 hc0_0
  have HR0_2 := Aside0.mk hr0_2
  have HC0_2 := Aside0.mk hc0_2
  clear hr0_2 hc0_2
  have HB := Aside0.mk (Below.refl w.heap.size w)
  have H : ((escape_Own.f l0_0 a0_1 l0_2).bind fun bt210 => (if bt210.2 = 0 then (some (bt210.1.length : Int)) else (some (-1)))) = some r := h
  clear h
  replace H := Option.bind_eq_some_iff.mp H
  obtain ⟨⟨t210, t213⟩, A20, H⟩ := H
  replace H : (if t213 = 0 then (some (t210.length : Int)) else (some (-1))) = some r := H
  have A2 := Aside0.mk A20
  clear A20
  by_cases c3 : t213 = 0
  · rw [if_pos c3] at H
    have c3b0 : (t213 == 0) = true := beq_iff_eq.mpr c3
    have c3b1 : (t213 != 0) = false := bne_eq_false_iff_eq.mpr c3
    clear c3
    obtain rfl := Option.some.inj H
    go_enter Try.func39, Try.ntmps39
    go_wp2_with (first | ((with_reducible refine gate_dst (N := 1) rfl ?_); refine box_event ?hg (N := 1) ?hd (cs := #[.slice A0_0 l0_0.length c0_0, .int .i64 a0_1, .slice A0_2 l0_2.length c0_2]) (t := 25) ?hr ?_; (case hd => rfl); (case hg => rfl); (case hr => first | (go_simp; done) | (go_simp; rfl)); intro gb209 hg w4 hbox hb; have n0_ := Aside0.mk (below_step (by repeat (first | (with_reducible first | exact HB.out | apply below_alloc | apply pw_below_drewN | apply below_drew1) | exact HB.out)) hb); have n1_ := Aside0.mk (hbox); have n2_ := Aside0.mk ((by rw [hg]; exact (below_size (by repeat (first | (with_reducible first | exact HB.out | apply below_alloc | apply pw_below_drewN | apply below_drew1) | exact HB.out))) : w.heap.size ≤ gb209)); have n3_ := Aside0.mk ((by rw [hg]; exact (below_size (by repeat (first | (with_reducible first | exact HB.out | apply below_alloc | apply pw_below_drewN | apply below_drew1) | exact HB.out))) : w.heap.size ≤ gb209)); clear HB; have HB := n0_; have BK209 := n1_; have GW209 := n2_; have GE209 := n3_; clear n0_ n1_ n2_ n3_; clear hb hbox hg; have hcz5_0 : w4.cell? ⟨gb209, 0, none⟩ = some (.slice A0_0 l0_0.length c0_0) := (blk_cell BK209.out 0).trans rfl; have hcz5_1 : w4.cell? ⟨gb209, 1, none⟩ = some (.int .i64 a0_1) := (blk_cell BK209.out 1).trans rfl; have hcz5_2 : w4.cell? ⟨gb209, 2, none⟩ = some (.slice A0_2 l0_2.length c0_2) := (blk_cell BK209.out 2).trans rfl; have hfz5_0 := blk_frozen BK209.out 0; have hfz5_1 := blk_frozen BK209.out 1; have hfz5_2 := blk_frozen BK209.out 2) | ((with_reducible refine gate_callee (f := 37) rfl ?_); refine goesL_ (some 7) rfl rfl Try.func37 (by kernel_rfl) rfl #[.agg #[.slice A0_0 l0_0.length c0_0, .int .i64 a0_1, .slice A0_2 l0_2.length c0_2]] rfl (by (try simp only [List.map_toArray, List.map_cons, List.map_nil]); first | done | rfl | (simp only [List.length_drop, List.length_take]; rfl)) ?_; (with_reducible refine (escape_Own.calls _ _ l0_0 a0_1 _ _ l0_2 t210 t213 _ ?side1 ?side2 ?side3 ?side4 A2.out).mono ?_); (case side1 => repeat (first | exact (Kd.C_below HR0_0.out HB.out) | (with_reducible refine Kd.C_alloc ?_ _) | (with_reducible refine Kd.C_drewN ?_ _) | (with_reducible refine Kd.C_drew ?_))); (case side2 => exact HC0_0.out); (case side3 => repeat (first | exact (Kd.C_below HR0_2.out HB.out) | (with_reducible refine Kd.C_alloc ?_ _) | (with_reducible refine Kd.C_drewN ?_ _) | (with_reducible refine Kd.C_drew ?_))); (case side4 => exact HC0_2.out); rintro e w6 ⟨v211, rfl, ho0, hb⟩; refine ⟨_, rfl, ?_⟩; have n0_ := Aside0.mk (Kd.R_lower ho0 (below_size (by repeat (first | (with_reducible first | exact HB.out | apply below_alloc | apply pw_below_drewN | apply below_drew1 | refine below_set ?_ GE209.out) | exact HB.out)))); have n1_ := Aside0.mk (blk_below (g := gb209) (o := .cells #[.slice A0_0 l0_0.length c0_0, .int .i64 a0_1, .slice A0_2 l0_2.length c0_2] 25 (0, 0)) (by (with_reducible repeat (first | refine blk_drewN ?_ _ | refine blk_drew ?_ | refine blk_alloc ?_ _)); exact BK209.out) hb); have n2_ := Aside0.mk (below_step (by repeat (first | (with_reducible first | exact HB.out | apply below_alloc | apply pw_below_drewN | apply below_drew1 | refine below_set ?_ GE209.out) | exact HB.out)) hb); clear BK209; clear HB; have HO212 := n0_; have BK209 := n1_; have HB := n2_; clear n0_ n1_ n2_; (try clear hb); (try clear hb2); (try clear hk); (try clear hi); (try clear ho0); obtain ⟨Ao7, co7, eo7⟩ := Kd.R_slice HO212.out; subst eo7))
    go_ret
    exact ⟨by first | rfl | (simp [errW_none, errW_some] <;> rfl) | (simp [*, errW_none, errW_some] <;> rfl), by repeat (first | (with_reducible first | exact HB.out | apply below_alloc | apply pw_below_drewN | apply below_drew1 | refine below_set ?_ GE209.out) | exact HB.out)⟩
  · rw [if_neg c3] at H
    have c3b0 : (t213 == 0) = false := beq_eq_false_iff_ne.mpr c3
    have c3b1 : (t213 != 0) = true := bne_iff_ne.mpr c3
    obtain rfl := Option.some.inj H
    go_enter Try.func39, Try.ntmps39
    go_wp2_with (first | ((with_reducible refine gate_dst (N := 1) rfl ?_); refine box_event ?hg (N := 1) ?hd (cs := #[.slice A0_0 l0_0.length c0_0, .int .i64 a0_1, .slice A0_2 l0_2.length c0_2]) (t := 25) ?hr ?_; (case hd => rfl); (case hg => rfl); (case hr => first | (go_simp; done) | (go_simp; rfl)); intro gb209 hg w8 hbox hb; have n0_ := Aside0.mk (below_step (by repeat (first | (with_reducible first | exact HB.out | apply below_alloc | apply pw_below_drewN | apply below_drew1) | exact HB.out)) hb); have n1_ := Aside0.mk (hbox); have n2_ := Aside0.mk ((by rw [hg]; exact (below_size (by repeat (first | (with_reducible first | exact HB.out | apply below_alloc | apply pw_below_drewN | apply below_drew1) | exact HB.out))) : w.heap.size ≤ gb209)); have n3_ := Aside0.mk ((by rw [hg]; exact (below_size (by repeat (first | (with_reducible first | exact HB.out | apply below_alloc | apply pw_below_drewN | apply below_drew1) | exact HB.out))) : w.heap.size ≤ gb209)); clear HB; have HB := n0_; have BK209 := n1_; have GW209 := n2_; have GE209 := n3_; clear n0_ n1_ n2_ n3_; clear hb hbox hg; have hcz9_0 : w8.cell? ⟨gb209, 0, none⟩ = some (.slice A0_0 l0_0.length c0_0) := (blk_cell BK209.out 0).trans rfl; have hcz9_1 : w8.cell? ⟨gb209, 1, none⟩ = some (.int .i64 a0_1) := (blk_cell BK209.out 1).trans rfl; have hcz9_2 : w8.cell? ⟨gb209, 2, none⟩ = some (.slice A0_2 l0_2.length c0_2) := (blk_cell BK209.out 2).trans rfl; have hfz9_0 := blk_frozen BK209.out 0; have hfz9_1 := blk_frozen BK209.out 1; have hfz9_2 := blk_frozen BK209.out 2) | ((with_reducible refine gate_callee (f := 37) rfl ?_); refine goesL_ (some 7) rfl rfl Try.func37 (by kernel_rfl) rfl #[.agg #[.slice A0_0 l0_0.length c0_0, .int .i64 a0_1, .slice A0_2 l0_2.length c0_2]] rfl (by (try simp only [List.map_toArray, List.map_cons, List.map_nil]); first | done | rfl | (simp only [List.length_drop, List.length_take]; rfl)) ?_; (with_reducible refine (escape_Own.calls _ _ l0_0 a0_1 _ _ l0_2 t210 t213 _ ?side1 ?side2 ?side3 ?side4 A2.out).mono ?_); (case side1 => repeat (first | exact (Kd.C_below HR0_0.out HB.out) | (with_reducible refine Kd.C_alloc ?_ _) | (with_reducible refine Kd.C_drewN ?_ _) | (with_reducible refine Kd.C_drew ?_))); (case side2 => exact HC0_0.out); (case side3 => repeat (first | exact (Kd.C_below HR0_2.out HB.out) | (with_reducible refine Kd.C_alloc ?_ _) | (with_reducible refine Kd.C_drewN ?_ _) | (with_reducible refine Kd.C_drew ?_))); (case side4 => exact HC0_2.out); rintro e w10 ⟨v211, rfl, ho0, hb⟩; refine ⟨_, rfl, ?_⟩; have n0_ := Aside0.mk (Kd.R_lower ho0 (below_size (by repeat (first | (with_reducible first | exact HB.out | apply below_alloc | apply pw_below_drewN | apply below_drew1 | refine below_set ?_ GE209.out) | exact HB.out)))); have n1_ := Aside0.mk (blk_below (g := gb209) (o := .cells #[.slice A0_0 l0_0.length c0_0, .int .i64 a0_1, .slice A0_2 l0_2.length c0_2] 25 (0, 0)) (by (with_reducible repeat (first | refine blk_drewN ?_ _ | refine blk_drew ?_ | refine blk_alloc ?_ _)); exact BK209.out) hb); have n2_ := Aside0.mk (below_step (by repeat (first | (with_reducible first | exact HB.out | apply below_alloc | apply pw_below_drewN | apply below_drew1 | refine below_set ?_ GE209.out) | exact HB.out)) hb); clear BK209; clear HB; have HO212 := n0_; have BK209 := n1_; have HB := n2_; clear n0_ n1_ n2_; (try clear hb); (try clear hb2); (try clear hk); (try clear hi); (try clear ho0)))
    go_ret
    exact ⟨by first | rfl | (simp [errW_none, errW_some] <;> rfl) | (simp [*, errW_none, errW_some] <;> rfl), by repeat (first | (with_reducible first | exact HB.out | apply below_alloc | apply pw_below_drewN | apply below_drew1 | refine below_set ?_ GE209.out) | exact HB.out)⟩
end Go.Proofs.Ytjmeignhhheckaa.Q
namespace Go.Proofs.Ytjmeignhhheckaa.Q
open Go.RowKit Go.Proofs.YtjmeignhhheckaaW.PrintWords Go.Proofs.YtjmeignhhheckaaW.PrintLast Go.Proofs.YtjmeignhhheckaaW.PrintMore
attribute [local go_sem] max2_int min2_int max_two min_two max_three min_three max_four min_four   -- for this text's walks alone
set_option linter.unusedVariables false
set_option linter.unusedSimpArgs false
def turnstilelaw15_lost.f (l0_0 : List Bool) (a0_1 : Int) (l0_2 : List (S36)) (a1 : Int) : Option (Bool) := (escape_Escaped.f l0_0 a0_1 l0_2).bind fun bt215 => (if bt215.2 = 0 then (if a1 < (bt215.1.length : Int) then (if 0 ≤ a1 then (some (rdOf false bt215.1 a1)) else (none)) else (some false)) else (some false))
set_option maxHeartbeats 8000000 in
set_option maxRecDepth 100000 in
theorem turnstilelaw15_lost.calls (A0_0 : Option Addr) (c0_0 : Nat) (l0_0 : List Bool) (a0_1 : Int) (A0_2 : Option Addr) (c0_2 : Nat) (l0_2 : List (S36)) (a1 : Int) (r : Bool) (w : World) (hr0_0 : Kd.C Kd.bool w A0_0 l0_0.length l0_0) (hc0_0 : l0_0.length ≤ c0_0) (hr0_2 : Kd.C k36 w A0_2 l0_2.length l0_2) (hc0_2 : l0_2.length ≤ c0_2) (h : turnstilelaw15_lost.f l0_0 a0_1 l0_2 a1 = some r) :
    Calls Try.prog 40 #[.agg #[.slice A0_0 l0_0.length c0_0, .int .i64 a0_1, .slice A0_2 l0_2.length c0_2], .int .i64 a1] w fun e w' => e = .returned (.bool r) ∧ Below w.heap.size w w' := by
  have hu25 := Try.underlying25
  have HR0_0 := Aside0.mk hr0_0
  have HC0_0 := Aside0.mk hc0_0
  clear hr0_0 hc0_0
  have HR0_2 := Aside0.mk hr0_2
  have HC0_2 := Aside0.mk hc0_2
  clear hr0_2 hc0_2
  have HB := Aside0.mk (Below.refl w.heap.size w)
  have H : ((escape_Escaped.f l0_0 a0_1 l0_2).bind fun bt215 => (if bt215.2 = 0 then (if a1 < (bt215.1.length : Int) then (if 0 ≤ a1 then (some (rdOf false bt215.1 a1)) else (none)) else (some false)) else (some false))) = some r := h
  clear h
  replace H := Option.bind_eq_some_iff.mp H
  obtain ⟨⟨t215, t218⟩, A30, H⟩ := H
  replace H : (if t218 = 0 then (if a1 < (t215.length : Int) then (if 0 ≤ a1 then (some (rdOf false t215 a1)) else (none)) else (some false)) else (some false)) = some r := H
  have A3 := Aside0.mk A30
  clear A30
  by_cases c4 : t218 = 0
  · rw [if_pos c4] at H
    have c4b0 : (t218 == 0) = true := beq_iff_eq.mpr c4
    have c4b1 : (t218 != 0) = false := bne_eq_false_iff_eq.mpr c4
    clear c4
    by_cases c5 : a1 < (t215.length : Int)
    · rw [if_pos c5] at H
      have c5b0 : decide (a1 < (t215.length : Int)) = true := decide_eq_true c5
      clear c5
      by_cases c6 : 0 ≤ a1
      · rw [if_pos c6] at H
        have c6b0 : decide (0 ≤ a1) = true := decide_eq_true c6
        clear c6
        obtain rfl := Option.some.inj H
        go_enter Try.func40, Try.ntmps40
        go_wp2_with (first | ((with_reducible refine gate_dst (N := 2) rfl ?_); (try (refine gate_guard (by rfl) ?_; dsimp only)); refine box_event ?hg (N := 2) ?hd (cs := #[.slice A0_0 l0_0.length c0_0, .int .i64 a0_1, .slice A0_2 l0_2.length c0_2]) (t := 25) ?hr ?_; (case hd => rfl); (case hg => rfl); (case hr => first | (go_simp; done) | (go_simp; rfl)); intro gb214 hg w7 hbox hb; have n0_ := Aside0.mk (below_step (by repeat (first | (with_reducible first | exact HB.out | apply below_alloc | apply pw_below_drewN | apply below_drew1) | exact HB.out)) hb); have n1_ := Aside0.mk (hbox); have n2_ := Aside0.mk ((by rw [hg]; exact (below_size (by repeat (first | (with_reducible first | exact HB.out | apply below_alloc | apply pw_below_drewN | apply below_drew1) | exact HB.out))) : w.heap.size ≤ gb214)); have n3_ := Aside0.mk ((by rw [hg]; exact (below_size (by repeat (first | (with_reducible first | exact HB.out | apply below_alloc | apply pw_below_drewN | apply below_drew1) | exact HB.out))) : w.heap.size ≤ gb214)); clear HB; have HB := n0_; have BK214 := n1_; have GW214 := n2_; have GE214 := n3_; clear n0_ n1_ n2_ n3_; clear hb hbox hg; have hcz8_0 : w7.cell? ⟨gb214, 0, none⟩ = some (.slice A0_0 l0_0.length c0_0) := (blk_cell BK214.out 0).trans rfl; have hcz8_1 : w7.cell? ⟨gb214, 1, none⟩ = some (.int .i64 a0_1) := (blk_cell BK214.out 1).trans rfl; have hcz8_2 : w7.cell? ⟨gb214, 2, none⟩ = some (.slice A0_2 l0_2.length c0_2) := (blk_cell BK214.out 2).trans rfl; have hfz8_0 := blk_frozen BK214.out 0; have hfz8_1 := blk_frozen BK214.out 1; have hfz8_2 := blk_frozen BK214.out 2) | ((with_reducible refine gate_callee (f := 77) rfl ?_); refine goesL_ (some 9) rfl rfl Try.func77 (by kernel_rfl) rfl #[.agg #[.slice A0_0 l0_0.length c0_0, .int .i64 a0_1, .slice A0_2 l0_2.length c0_2]] rfl (by (try simp only [List.map_toArray, List.map_cons, List.map_nil]); first | done | rfl | (simp only [List.length_drop, List.length_take]; rfl)) ?_; (with_reducible refine (escape_Escaped.calls _ _ l0_0 a0_1 _ _ l0_2 t215 t218 _ ?side1 ?side2 ?side3 ?side4 A3.out).mono ?_); (case side1 => repeat (first | exact (Kd.C_below HR0_0.out HB.out) | (with_reducible refine Kd.C_alloc ?_ _) | (with_reducible refine Kd.C_drewN ?_ _) | (with_reducible refine Kd.C_drew ?_))); (case side2 => exact HC0_0.out); (case side3 => repeat (first | exact (Kd.C_below HR0_2.out HB.out) | (with_reducible refine Kd.C_alloc ?_ _) | (with_reducible refine Kd.C_drewN ?_ _) | (with_reducible refine Kd.C_drew ?_))); (case side4 => exact HC0_2.out); rintro e w9 ⟨v216, rfl, ho0, hb⟩; refine ⟨_, rfl, ?_⟩; have n0_ := Aside0.mk (Kd.R_lower ho0 (below_size (by repeat (first | (with_reducible first | exact HB.out | apply below_alloc | apply pw_below_drewN | apply below_drew1 | refine below_set ?_ GE214.out) | exact HB.out)))); have n1_ := Aside0.mk (blk_below (g := gb214) (o := .cells #[.slice A0_0 l0_0.length c0_0, .int .i64 a0_1, .slice A0_2 l0_2.length c0_2] 25 (0, 0)) (by (with_reducible repeat (first | refine blk_drewN ?_ _ | refine blk_drew ?_ | refine blk_alloc ?_ _)); exact BK214.out) hb); have n2_ := Aside0.mk (below_step (by repeat (first | (with_reducible first | exact HB.out | apply below_alloc | apply pw_below_drewN | apply below_drew1 | refine below_set ?_ GE214.out) | exact HB.out)) hb); clear BK214; clear HB; have HO217 := n0_; have BK214 := n1_; have HB := n2_; clear n0_ n1_ n2_; (try clear hb); (try clear hb2); (try clear hk); (try clear hi); (try clear ho0); obtain ⟨Ao10, co10, eo10⟩ := Kd.R_slice HO217.out; subst eo10; have p219 : 0 ≤ (a1 : Int) := of_decide_eq_true (by first | (with_reducible assumption) | assumption); have q219 : a1 < (t215.length : Int) := of_decide_eq_true (by first | (with_reducible assumption) | assumption); obtain ⟨ad219, e219, hx219_0⟩ := Kd.at_bool (Kd.R_reads' HO217.out).2.2 a1 p219 q219; cases e219; replace p219 := eq_true p219; replace q219 := eq_true q219))
        go_ret
        exact ⟨by first | rfl | (simp [errW_none, errW_some] <;> rfl) | (simp [*, errW_none, errW_some] <;> rfl), by repeat (first | (with_reducible first | exact HB.out | apply below_alloc | apply pw_below_drewN | apply below_drew1 | refine below_set ?_ GE214.out) | exact HB.out)⟩
      · rw [if_neg c6] at H
        exact absurd H (by simp)
    · rw [if_neg c5] at H
      have c5b0 : decide (a1 < (t215.length : Int)) = false := decide_eq_false c5
      clear c5
      obtain rfl := Option.some.inj H
      go_enter Try.func40, Try.ntmps40
      go_wp2_with (first | ((with_reducible refine gate_dst (N := 2) rfl ?_); (try (refine gate_guard (by rfl) ?_; dsimp only)); refine box_event ?hg (N := 2) ?hd (cs := #[.slice A0_0 l0_0.length c0_0, .int .i64 a0_1, .slice A0_2 l0_2.length c0_2]) (t := 25) ?hr ?_; (case hd => rfl); (case hg => rfl); (case hr => first | (go_simp; done) | (go_simp; rfl)); intro gb214 hg w11 hbox hb; have n0_ := Aside0.mk (below_step (by repeat (first | (with_reducible first | exact HB.out | apply below_alloc | apply pw_below_drewN | apply below_drew1) | exact HB.out)) hb); have n1_ := Aside0.mk (hbox); have n2_ := Aside0.mk ((by rw [hg]; exact (below_size (by repeat (first | (with_reducible first | exact HB.out | apply below_alloc | apply pw_below_drewN | apply below_drew1) | exact HB.out))) : w.heap.size ≤ gb214)); have n3_ := Aside0.mk ((by rw [hg]; exact (below_size (by repeat (first | (with_reducible first | exact HB.out | apply below_alloc | apply pw_below_drewN | apply below_drew1) | exact HB.out))) : w.heap.size ≤ gb214)); clear HB; have HB := n0_; have BK214 := n1_; have GW214 := n2_; have GE214 := n3_; clear n0_ n1_ n2_ n3_; clear hb hbox hg; have hcz12_0 : w11.cell? ⟨gb214, 0, none⟩ = some (.slice A0_0 l0_0.length c0_0) := (blk_cell BK214.out 0).trans rfl; have hcz12_1 : w11.cell? ⟨gb214, 1, none⟩ = some (.int .i64 a0_1) := (blk_cell BK214.out 1).trans rfl; have hcz12_2 : w11.cell? ⟨gb214, 2, none⟩ = some (.slice A0_2 l0_2.length c0_2) := (blk_cell BK214.out 2).trans rfl; have hfz12_0 := blk_frozen BK214.out 0; have hfz12_1 := blk_frozen BK214.out 1; have hfz12_2 := blk_frozen BK214.out 2) | ((with_reducible refine gate_callee (f := 77) rfl ?_); refine goesL_ (some 9) rfl rfl Try.func77 (by kernel_rfl) rfl #[.agg #[.slice A0_0 l0_0.length c0_0, .int .i64 a0_1, .slice A0_2 l0_2.length c0_2]] rfl (by (try simp only [List.map_toArray, List.map_cons, List.map_nil]); first | done | rfl | (simp only [List.length_drop, List.length_take]; rfl)) ?_; (with_reducible refine (escape_Escaped.calls _ _ l0_0 a0_1 _ _ l0_2 t215 t218 _ ?side1 ?side2 ?side3 ?side4 A3.out).mono ?_); (case side1 => repeat (first | exact (Kd.C_below HR0_0.out HB.out) | (with_reducible refine Kd.C_alloc ?_ _) | (with_reducible refine Kd.C_drewN ?_ _) | (with_reducible refine Kd.C_drew ?_))); (case side2 => exact HC0_0.out); (case side3 => repeat (first | exact (Kd.C_below HR0_2.out HB.out) | (with_reducible refine Kd.C_alloc ?_ _) | (with_reducible refine Kd.C_drewN ?_ _) | (with_reducible refine Kd.C_drew ?_))); (case side4 => exact HC0_2.out); rintro e w13 ⟨v216, rfl, ho0, hb⟩; refine ⟨_, rfl, ?_⟩; have n0_ := Aside0.mk (Kd.R_lower ho0 (below_size (by repeat (first | (with_reducible first | exact HB.out | apply below_alloc | apply pw_below_drewN | apply below_drew1 | refine below_set ?_ GE214.out) | exact HB.out)))); have n1_ := Aside0.mk (blk_below (g := gb214) (o := .cells #[.slice A0_0 l0_0.length c0_0, .int .i64 a0_1, .slice A0_2 l0_2.length c0_2] 25 (0, 0)) (by (with_reducible repeat (first | refine blk_drewN ?_ _ | refine blk_drew ?_ | refine blk_alloc ?_ _)); exact BK214.out) hb); have n2_ := Aside0.mk (below_step (by repeat (first | (with_reducible first | exact HB.out | apply below_alloc | apply pw_below_drewN | apply below_drew1 | refine below_set ?_ GE214.out) | exact HB.out)) hb); clear BK214; clear HB; have HO217 := n0_; have BK214 := n1_; have HB := n2_; clear n0_ n1_ n2_; (try clear hb); (try clear hb2); (try clear hk); (try clear hi); (try clear ho0); obtain ⟨Ao14, co14, eo14⟩ := Kd.R_slice HO217.out; subst eo14))
      go_ret
      exact ⟨by first | rfl | (simp [errW_none, errW_some] <;> rfl) | (simp [*, errW_none, errW_some] <;> rfl), by repeat (first | (with_reducible first | exact HB.out | apply below_alloc | apply pw_below_drewN | apply below_drew1 | refine below_set ?_ GE214.out) | exact HB.out)⟩
  · rw [if_neg c4] at H
    have c4b0 : (t218 == 0) = false := beq_eq_false_iff_ne.mpr c4
    have c4b1 : (t218 != 0) = true := bne_iff_ne.mpr c4
    obtain rfl := Option.some.inj H
    go_enter Try.func40, Try.ntmps40
    go_wp2_with (first | ((with_reducible refine gate_dst (N := 2) rfl ?_); (try (refine gate_guard (by rfl) ?_; dsimp only)); refine box_event ?hg (N := 2) ?hd (cs := #[.slice A0_0 l0_0.length c0_0, .int .i64 a0_1, .slice A0_2 l0_2.length c0_2]) (t := 25) ?hr ?_; (case hd => rfl); (case hg => rfl); (case hr => first | (go_simp; done) | (go_simp; rfl)); intro gb214 hg w15 hbox hb; have n0_ := Aside0.mk (below_step (by repeat (first | (with_reducible first | exact HB.out | apply below_alloc | apply pw_below_drewN | apply below_drew1) | exact HB.out)) hb); have n1_ := Aside0.mk (hbox); have n2_ := Aside0.mk ((by rw [hg]; exact (below_size (by repeat (first | (with_reducible first | exact HB.out | apply below_alloc | apply pw_below_drewN | apply below_drew1) | exact HB.out))) : w.heap.size ≤ gb214)); have n3_ := Aside0.mk ((by rw [hg]; exact (below_size (by repeat (first | (with_reducible first | exact HB.out | apply below_alloc | apply pw_below_drewN | apply below_drew1) | exact HB.out))) : w.heap.size ≤ gb214)); clear HB; have HB := n0_; have BK214 := n1_; have GW214 := n2_; have GE214 := n3_; clear n0_ n1_ n2_ n3_; clear hb hbox hg; have hcz16_0 : w15.cell? ⟨gb214, 0, none⟩ = some (.slice A0_0 l0_0.length c0_0) := (blk_cell BK214.out 0).trans rfl; have hcz16_1 : w15.cell? ⟨gb214, 1, none⟩ = some (.int .i64 a0_1) := (blk_cell BK214.out 1).trans rfl; have hcz16_2 : w15.cell? ⟨gb214, 2, none⟩ = some (.slice A0_2 l0_2.length c0_2) := (blk_cell BK214.out 2).trans rfl; have hfz16_0 := blk_frozen BK214.out 0; have hfz16_1 := blk_frozen BK214.out 1; have hfz16_2 := blk_frozen BK214.out 2) | ((with_reducible refine gate_callee (f := 77) rfl ?_); refine goesL_ (some 9) rfl rfl Try.func77 (by kernel_rfl) rfl #[.agg #[.slice A0_0 l0_0.length c0_0, .int .i64 a0_1, .slice A0_2 l0_2.length c0_2]] rfl (by (try simp only [List.map_toArray, List.map_cons, List.map_nil]); first | done | rfl | (simp only [List.length_drop, List.length_take]; rfl)) ?_; (with_reducible refine (escape_Escaped.calls _ _ l0_0 a0_1 _ _ l0_2 t215 t218 _ ?side1 ?side2 ?side3 ?side4 A3.out).mono ?_); (case side1 => repeat (first | exact (Kd.C_below HR0_0.out HB.out) | (with_reducible refine Kd.C_alloc ?_ _) | (with_reducible refine Kd.C_drewN ?_ _) | (with_reducible refine Kd.C_drew ?_))); (case side2 => exact HC0_0.out); (case side3 => repeat (first | exact (Kd.C_below HR0_2.out HB.out) | (with_reducible refine Kd.C_alloc ?_ _) | (with_reducible refine Kd.C_drewN ?_ _) | (with_reducible refine Kd.C_drew ?_))); (case side4 => exact HC0_2.out); rintro e w17 ⟨v216, rfl, ho0, hb⟩; refine ⟨_, rfl, ?_⟩; have n0_ := Aside0.mk (Kd.R_lower ho0 (below_size (by repeat (first | (with_reducible first | exact HB.out | apply below_alloc | apply pw_below_drewN | apply below_drew1 | refine below_set ?_ GE214.out) | exact HB.out)))); have n1_ := Aside0.mk (blk_below (g := gb214) (o := .cells #[.slice A0_0 l0_0.length c0_0, .int .i64 a0_1, .slice A0_2 l0_2.length c0_2] 25 (0, 0)) (by (with_reducible repeat (first | refine blk_drewN ?_ _ | refine blk_drew ?_ | refine blk_alloc ?_ _)); exact BK214.out) hb); have n2_ := Aside0.mk (below_step (by repeat (first | (with_reducible first | exact HB.out | apply below_alloc | apply pw_below_drewN | apply below_drew1 | refine below_set ?_ GE214.out) | exact HB.out)) hb); clear BK214; clear HB; have HO217 := n0_; have BK214 := n1_; have HB := n2_; clear n0_ n1_ n2_; (try clear hb); (try clear hb2); (try clear hk); (try clear hi); (try clear ho0)))
    go_ret
    exact ⟨by first | rfl | (simp [errW_none, errW_some] <;> rfl) | (simp [*, errW_none, errW_some] <;> rfl), by repeat (first | (with_reducible first | exact HB.out | apply below_alloc | apply pw_below_drewN | apply below_drew1 | refine below_set ?_ GE214.out) | exact HB.out)⟩
end Go.Proofs.Ytjmeignhhheckaa.Q

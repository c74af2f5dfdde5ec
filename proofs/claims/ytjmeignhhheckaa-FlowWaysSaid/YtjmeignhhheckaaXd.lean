/- Part 4 of the proof: contracts of the functions that are reached, and the plain law. -/
import Derived.Test.YtjmeignhhheckaaXc
import Init
import Derived.ScopeJumps
import Derived.WalkMore
set_option linter.unusedVariables false
set_option linter.unusedSimpArgs false
namespace Go.Proofs.Ytjmeignhhheckaa.H
open Go.RowKit Go.Maps Go.Proofs.YtjmeignhhheckaaW.PrintWords Go.Proofs.YtjmeignhhheckaaW.PrintLast Go.Proofs.Ytjmeignhhheckaa.Q
set_option maxRecDepth 100000
def regIn (n : Nat) (x : S46) : Prop := ((chgS x).2 = true → 0 ≤ (chgS x).1 ∧ (chgS x).1 < n) ∧ ∀ r ∈ asksS x, 0 ≤ r ∧ r < n
theorem isNum_in {xs : List Bool} {r : Int} (h : isNum xs r = true) : 0 ≤ r ∧ r < xs.length := by
  unfold isNum at h; rw [Bool.and_eq_true] at h; exact inN_iff h.1
theorem isRef_in {xs : List Bool} {r : Int} (h : isRef xs r = true) : 0 ≤ r ∧ r < xs.length := by
  unfold isRef at h; rw [Bool.and_eq_true] at h; exact inN_iff h.1
theorem mem3 {n : Nat} {a b c : Int} (ha : 0 ≤ a ∧ a < n) (hb : 0 ≤ b ∧ b < n) (hc : 0 ≤ c ∧ c < n) : ∀ r ∈ [a, b, c], 0 ≤ r ∧ r < n := by
  intro r hr
  simp only [List.mem_cons, List.not_mem_nil, or_false] at hr
  rcases hr with rfl | rfl | rfl
  · exact ha
  · exact hb
  · exact hc
theorem mem2 {n : Nat} {a b : Int} (ha : 0 ≤ a ∧ a < n) (hb : 0 ≤ b ∧ b < n) : ∀ r ∈ [a, b], 0 ≤ r ∧ r < n := by
  intro r hr
  simp only [List.mem_cons, List.not_mem_nil, or_false] at hr
  rcases hr with rfl | rfl
  · exact ha
  · exact hb
theorem mem1 {n : Nat} {a : Int} (ha : 0 ≤ a ∧ a < n) : ∀ r ∈ [a], 0 ≤ r ∧ r < n := by
  intro r hr
  simp only [List.mem_cons, List.not_mem_nil, or_false] at hr
  rcases hr with rfl
  exact ha
theorem mem0 {n : Nat} : ∀ r ∈ ([] : List Int), 0 ≤ r ∧ r < n := by
  intro r hr
  cases hr
theorem ins_regs {xs : List Bool} {sites words : Int} {met : List Int} {x : S46} (h : insB xs sites words met x = true) : regIn xs.length x := by
  unfold insB at h
  by_cases h00 : (emptyB (shp x.f0).1 || !zerosB x) = true
  · rw [if_pos h00] at h; cases h
  rw [if_neg h00] at h
  clear h00
  unfold regIn chgS asksS
  by_cases k1 : x.f0 = 1
  · simp only [k1, if_true, Bool.or_eq_true, Bool.and_eq_true] at h
    simp [k1]
    rcases h with h | h
    · exact isNum_in h
    · exact isRef_in h.1
  by_cases k2 : x.f0 = 2
  · simp [k2] at h
    simp [k2]
    rcases h with h | h
    · exact ⟨isNum_in h.1, isNum_in h.2⟩
    · exact ⟨isRef_in h.1, isRef_in h.2⟩
  by_cases k3 : x.f0 = 3
  · simp [k3] at h
    obtain ⟨⟨_, ha⟩, hb⟩ := h
    have hbc : (0 ≤ x.f3 ∧ x.f3 < xs.length) ∧ (0 ≤ x.f4 ∧ x.f4 < xs.length) := by
      rcases hb with h | h
      · exact ⟨isRef_in h.1.2, isRef_in h.2⟩
      · exact ⟨isNum_in h.1, isNum_in h.2⟩
    refine ⟨fun _ => by simpa [k3] using isNum_in ha, ?_⟩
    simp only [k3]
    exact mem2 hbc.1 hbc.2
  by_cases k4 : x.f0 = 4
  · simp [k4] at h
    simp [k4]
    exact isRef_in h
  by_cases k5 : x.f0 = 5
  · simp [k5] at h
    simp [k5]
    exact isNum_in h.1.1
  by_cases k6 : x.f0 = 6
  · simp [k6] at h
    simp [k6]
    exact isRef_in h.1.1
  by_cases k7 : x.f0 = 7
  · simp [k7] at h
    simp [k7]
    exact isRef_in h.1.1.1.1.1
  by_cases k12 : x.f0 = 12
  · simp [k12] at h
    simp [k12]
    exact isNum_in h
  by_cases k13 : x.f0 = 13
  · simp [k13]
  by_cases k14 : x.f0 = 14
  · simp [k14]
  simp only [k1, k2, k3, k4, k5, k6, k7, k12, k13, k14, if_false, Bool.and_eq_true, Bool.or_eq_true] at h
  obtain ⟨⟨⟨⟨ha, hb⟩, hc⟩, _⟩, _⟩ := h
  have ha := inN_iff ha
  have hb := isRef_in hb
  have hc : 0 ≤ x.f4 → 0 ≤ x.f4 ∧ x.f4 < xs.length := by
    intro h0
    rcases hc with h | h
    · have : x.f4 = -1 := by simpa using h
      omega
    · exact isNum_in h
  refine ⟨fun hh => ?_, ?_⟩
  · split at hh
    · rename_i h1
      rw [if_pos h1]
      exact ha
    · cases hh
  · simp only [k1, k2, k3, k4, k5, k6, k7, k12, k13, k14, if_false, false_or, or_false]
    split
    · split
      · rename_i h0
        exact mem2 hb (hc h0)
      · exact mem1 hb
    · split
      · split
        · rename_i h0
          exact mem3 ha hb (hc h0)
        · exact mem2 ha hb
      · exact mem0
theorem scan_regs {xs : List Bool} {sites words : Int} : ∀ (l : List S46) (k : Nat) (met m2 : List Int), insScan xs sites words l k met = .inr m2 → ∀ x ∈ l, regIn xs.length x := by
  intro l
  induction l with
  | nil => intro k met m2 _ x hx; cases hx
  | cons i l ih =>
    intro k met m2 h x hx
    simp only [insScan] at h
    by_cases hi : insB xs sites words met i = true
    · rw [if_pos hi] at h
      rcases List.mem_cons.1 hx with rfl | hx
      · exact ins_regs hi
      · exact ih _ _ _ h x hx
    · rw [if_neg hi] at h
      cases h
theorem blk_regs {xs : List Bool} {sites words : Int} {nb : Nat} : ∀ (bs : List S36) (n : Nat) (met : List Int), blkScan xs sites words nb bs n met = none → ∀ b ∈ bs, ∀ x ∈ b.f0, regIn xs.length x := by
  intro bs
  induction bs with
  | nil => intro n met _ b hb; cases hb
  | cons x bs ih =>
    intro n met h b hb
    cases hi : insScan xs sites words x.f0 0 met with
    | inl k => rw [blk_inl hi] at h; cases h
    | inr m2 =>
      rw [blk_last hi] at h
      cases hl : lastB xs nb x with
      | false => rw [hl] at h; simp at h
      | true =>
        rw [hl] at h
        rcases List.mem_cons.1 hb with rfl | hb
        · exact scan_regs _ _ _ _ hi
        · exact ih _ _ (by simpa using h) b hb
theorem last_reg {xs : List Bool} {nb : Nat} {b : S36} (h : lastB xs nb b = true) (h2 : b.f1 = 2) : 0 ≤ b.f2 ∧ b.f2 < xs.length := by
  unfold lastB at h
  simp [h2] at h
  exact isNum_in h.2
structure GOk (xs : List Bool) (bs : List S36) : Prop where
  nx : xs.length ≤ 1024
  ne : 0 < bs.length
  nb : bs.length ≤ 4096
  tot : insTotal bs ≤ 8192
  T : okT bs
  regs : ∀ b ∈ bs, ∀ x ∈ b.f0, regIn xs.length x
  br : ∀ b ∈ bs, b.f1 = 2 → 0 ≤ b.f2 ∧ b.f2 < xs.length
  la : ∀ b ∈ bs, lastB xs bs.length b = true
theorem gok {xs : List Bool} {sites words : Int} {bs : List S36} (h : (checkS words [⟨xs, sites, bs⟩]).2.2.2 = 0) : GOk xs bs := by
  unfold checkS at h
  split at h
  · cases h
  split at h
  · cases h
  unfold goS at h
  dsimp only at h
  by_cases hc : countsS xs sites bs = 0
  · rw [if_neg (by rw [hc]; decide)] at h
    by_cases hf : (faultS xs sites words bs).2.2 = true
    · rw [if_pos hf] at h
      cases h
    · have hb : blkScan xs sites words bs.length bs 0 [] = none := by
        cases hq : blkScan xs sites words bs.length bs 0 [] with
        | none => rfl
        | some p => rw [fault_some hq] at hf; exact absurd rfl hf
      have hcs : xs.length ≤ 1024 ∧ bs.length ≤ 4096 ∧ sites ≤ 8192 ∧ insTotal bs ≤ 8192 ∧ 0 < bs.length := by
        unfold countsS at hc
        by_cases h : 1024 < xs.length ∨ 4096 < bs.length ∨ 8192 < sites ∨ 8192 < insTotal bs
        · rw [if_pos h] at hc; cases hc
        · rw [if_neg h] at hc
          by_cases h2 : bs.length = 0 ∨ sites < 0
          · rw [if_pos h2] at hc; cases hc
          · omega
      have hl := blk_none bs 0 [] hb
      exact ⟨hcs.1, hcs.2.2.2.2, hcs.2.1, hcs.2.2.2.1, okT_of hb, blk_regs bs 0 [] hb, fun b hm h2 => last_reg (hl b hm) h2, hl⟩
  · rw [if_pos hc] at h
    exact absurd h hc
theorem GOk.blk {xs : List Bool} {bs : List S36} (h : GOk xs bs) : ∀ x ∈ bs, blkOk bs.length x := fun b hb =>
  ⟨h.T b hb, fun h2 => by have := h.br b hb h2; have := h.nx; omega, fun x hx => by
    have := h.regs b hb x hx
    have hn := h.nx
    exact ⟨fun hc => by have := this.1 hc; omega, fun r hr => by have := this.2 r hr; omega⟩⟩
/-- live's and flow's refusal -/
def gE (xs : List Bool) (sites : Int) (bs : List S36) : Int := if (checkS 65536 [⟨xs, sites, bs⟩]).2.2.2 = 0 then 0 else 14
theorem gE_gok {xs : List Bool} {sites : Int} {bs : List S36} (h : gE xs sites bs = 0) : GOk xs bs := by
  unfold gE at h
  by_cases hc : (checkS 65536 [⟨xs, sites, bs⟩]).2.2.2 = 0
  · exact gok hc
  · rw [if_neg hc] at h; cases h
theorem check_f (xs : List Bool) (sites : Int) (bs : List S36) (hs : smallG bs) : flow_check.f xs sites bs = some (gE xs sites bs) := by
  unfold flow_check.f ir_Check.f gE
  rw [if_pos (by intro g hg; rw [List.mem_singleton] at hg; rw [hg]; exact hs), Option.bind_some]
  split <;> rfl
theorem order_rng (bs : List S36) (hT : okT bs) : ∀ (k : Nat) (st : List S166) (met : List Bool) (out r : List Int), (∀ s ∈ st, 0 ≤ s.f0 ∧ s.f0 < bs.length ∧ 0 ≤ s.f1) → (∀ o ∈ out, 0 ≤ o ∧ o < bs.length) → orderGo bs k st met out = some r → (∀ o ∈ r, 0 ≤ o ∧ o < bs.length) ∧ r.length ≤ out.length + k := by
  intro k
  induction k with
  | zero =>
    intro st met out r hst ho h
    cases st with
    | nil => simp only [orderGo, Option.some.injEq] at h; subst h; exact ⟨ho, by omega⟩
    | cons s st => simp [orderGo] at h
  | succ k ih =>
    intro st met out r hst ho h
    cases st with
    | nil => simp only [orderGo, Option.some.injEq] at h; subst h; exact ⟨ho, by omega⟩
    | cons s st =>
      have hs := hst s (by simp)
      simp only [orderGo] at h
      split at h
      · rename_i hlt
        have hto := hT _ (getD_mem (d := z36) (by omega : s.f0.toNat < bs.length)) (rd (nexts (rd_T36 bs s.f0)) s.f1) (getD_mem (show s.f1.toNat < (nexts (rd_T36 bs s.f0)).length from by omega))
        split at h
        · have := ih _ _ _ _ (fun u hu => by
            rcases List.mem_cons.1 hu with rfl | hu
            · exact ⟨hs.1, hs.2.1, by dsimp only; omega⟩
            · exact hst u (by simp [hu])) ho h
          exact ⟨this.1, by omega⟩
        · have := ih _ _ _ _ (fun u hu => by
            rcases List.mem_cons.1 hu with rfl | hu
            · exact ⟨hto.1, hto.2, Int.le_refl _⟩
            · rcases List.mem_cons.1 hu with rfl | hu
              · exact ⟨hs.1, hs.2.1, by dsimp only; omega⟩
              · exact hst u (by simp [hu])) ho h
          exact ⟨this.1, by omega⟩
      · have := ih _ _ _ _ (fun u hu => hst u (by simp [hu])) (fun o h2 => by
          rcases List.mem_append.1 h2 with h2 | h2
          · exact ho o h2
          · rw [List.mem_singleton] at h2; subst h2; exact ⟨hs.1, hs.2.1⟩) h
        refine ⟨this.1, ?_⟩
        have h3 := this.2
        rw [List.length_append] at h3
        simp only [List.length_singleton] at h3
        omega
theorem orderS_rng (bs : List S36) (hT : okT bs) (hne : 0 < bs.length) : (∀ o ∈ orderS bs, 0 ≤ o ∧ o < bs.length) ∧ (orderS bs).length ≤ 4 * bs.length + 4 := by
  obtain ⟨r, hr, he⟩ := orderS_eq bs hT hne
  have := order_rng bs hT _ _ _ _ _ (by simp; omega) (by simp) hr
  rw [← he]
  exact ⟨fun o ho => this.1 o (by simpa using ho), by simpa using this.2⟩
def reachS (bs : List S36) : List Bool := (orderS bs).foldl (fun x o => x.set o.toNat true) (List.replicate bs.length false)
theorem reach_l0 (n : Nat) (ord : List Int) (ho : ∀ o ∈ ord, 0 ≤ o ∧ o < n) (hl : ord.length < 1000000) : ∀ (d k i : Nat) (x : List Bool), x.length = n → i + d = ord.length → d < k → flow_Reach.l0 k x ord (ord.length : Int) (i : Int) = some ((ord.drop i).foldl (fun x o => x.set o.toNat true) x, 0) := by
  intro d
  induction d with
  | zero =>
    intro k i x hx hi hk
    obtain ⟨k, rfl⟩ : ∃ m, k = m + 1 := ⟨k - 1, by omega⟩
    simp only [flow_Reach.l0]
    rw [if_neg (by omega), List.drop_of_length_le (by omega)]
    rfl
  | succ d ih =>
    intro k i x hx hi hk
    obtain ⟨k, rfl⟩ : ∃ m, k = m + 1 := ⟨k - 1, by omega⟩
    have hm := ho (rd ord (i : Int)) (by unfold rd; exact getD_mem (by omega))
    simp only [flow_Reach.l0]
    rw [if_pos (by omega), if_pos (by omega), if_pos (by omega), if_pos hm.1, if_pos (by omega)]
    rw [show Go.RowKit.wrap64 ((i : Int) + 1) = ((i + 1 : Nat) : Int) from by unfold Go.RowKit.wrap64; omega]
    rw [ih k (i + 1) _ (by simp [hx]) (by omega) (by omega)]
    rw [drop_at ord i 0 (by omega)]
    simp only [List.foldl_cons]
    rfl
theorem reach_f (xs : List Bool) (sites : Int) (bs : List S36) (hs : smallG bs) : ∃ k, flow_Reach.f k xs sites bs = some (if gE xs sites bs = 0 then reachS bs else [], gE xs sites bs) := by
  by_cases h : gE xs sites bs = 0
  · have G := gE_gok h
    have hr := orderS_rng bs G.T G.ne
    refine ⟨(orderS bs).length + 1, ?_⟩
    unfold flow_Reach.f
    rw [check_f xs sites bs hs, Option.bind_some, h, if_pos rfl, if_pos (by omega), if_pos (by have := G.nb; omega)]
    unfold paths_Order.f
    rw [if_pos ⟨G.ne, by have := G.nb; omega, G.T⟩, Option.bind_some]
    have := reach_l0 bs.length (orderS bs) hr.1 (by have := G.nb; omega) (orderS bs).length ((orderS bs).length + 1) 0 (List.replicate bs.length false) (by simp) (by omega) (by omega)
    rw [List.drop_zero] at this
    rw [if_pos rfl, Int.toNat_natCast]
    exact this
  · refine ⟨0, ?_⟩
    unfold flow_Reach.f
    rw [check_f xs sites bs hs, Option.bind_some, if_neg h, if_neg h]
end Go.Proofs.Ytjmeignhhheckaa.H
namespace Go.Proofs.Ytjmeignhhheckaa.H
open Go.RowKit Go.Maps Go.Proofs.YtjmeignhhheckaaW.PrintWords Go.Proofs.YtjmeignhhheckaaW.PrintLast Go.Proofs.Ytjmeignhhheckaa.Q
set_option maxRecDepth 100000
def nxB (bs : List S36) (b : Int) : List Int := nexts (rd_T36 bs b)
def Linked (nx : Int → List Int) : List Int → Prop
  | [] => True
  | [s] => s = 0
  | s :: t :: r => s ∈ nx t ∧ Linked nx (t :: r)
structure OInv (nx : Int → List Int) (n : Nat) (st : List S166) (met : List Bool) (out : List Int) : Prop where
  ml : met.length = n
  rng : ∀ s ∈ st, 0 ≤ s.f0 ∧ s.f0 < n ∧ 0 ≤ s.f1
  orng : ∀ o ∈ out, 0 ≤ o ∧ o < n
  nd : (st.map (fun s => s.f0) ++ out).Nodup
  mt : ∀ b : Int, 0 ≤ b → b < n → (rdOf false met b = true ↔ b ∈ st.map (fun s => s.f0) ∨ b ∈ out)
  ln : Linked nx (st.map fun s => s.f0)
  par : ∀ l1 v l2, out = l1 ++ v :: l2 → (∃ p ∈ l2 ++ st.map (fun s => s.f0), v ∈ nx p) ∨ (v = 0 ∧ l2 = [] ∧ st = [])
  d1 : ∀ s ∈ st, ∀ i : Nat, (i : Int) < s.f1 → ∀ t, (nx s.f0)[i]? = some t → rdOf false met t = true
  d2 : ∀ o ∈ out, ∀ t ∈ nx o, rdOf false met t = true
  ne : st ≠ [] ∨ out ≠ []
theorem rdOf_set {met : List Bool} {n : Int} (h0 : 0 ≤ n) (h1 : n < met.length) {b : Int} (hb : 0 ≤ b) : rdOf false (met.set n.toNat true) b = if b = n then true else rdOf false met b := by
  unfold rdOf
  simp only [List.getD_eq_getElem?_getD]
  by_cases e : b = n
  · subst e
    rw [if_pos rfl, List.getElem?_set_self (by omega)]; rfl
  · rw [if_neg e, List.getElem?_set_ne (by omega)]
theorem rdOf_up {met : List Bool} {n : Nat} {b : Int} (h : rdOf false met b = true) : rdOf false (met.set n true) b = true := by
  unfold rdOf at *
  simp only [List.getD_eq_getElem?_getD] at *
  by_cases e : n = b.toNat
  · subst e
    by_cases hl : b.toNat < met.length
    · rw [List.getElem?_set_self hl]; rfl
    · rw [List.getElem?_eq_none (by omega)] at h; cases h
  · rw [List.getElem?_set_ne e]; exact h
theorem order_inv (bs : List S36) (hT : okT bs) : ∀ (k : Nat) (st : List S166) (met : List Bool) (out r : List Int), OInv (nxB bs) bs.length st met out → orderGo bs k st met out = some r → ∃ met', OInv (nxB bs) bs.length [] met' r := by
  intro k
  induction k with
  | zero =>
    intro st met out r h e
    cases st with
    | nil => simp only [orderGo, Option.some.injEq] at e; subst e; exact ⟨met, h⟩
    | cons s st => simp [orderGo] at e
  | succ k ih =>
    intro st met out r h e
    cases st with
    | nil => simp only [orderGo, Option.some.injEq] at e; subst e; exact ⟨met, h⟩
    | cons s st =>
      have hs := h.rng s (by simp)
      simp only [orderGo] at e
      by_cases hlt : s.f1 < (nexts (rd_T36 bs s.f0)).length
      · rw [if_pos hlt] at e
        have hget : (nxB bs s.f0)[s.f1.toNat]? = some (rd (nexts (rd_T36 bs s.f0)) s.f1) := by
          unfold nxB rd
          rw [List.getD_eq_getElem?_getD, List.getElem?_eq_getElem (by omega)]; rfl
        have hto := hT _ (getD_mem (d := z36) (by omega : s.f0.toNat < bs.length)) (rd (nexts (rd_T36 bs s.f0)) s.f1) (getD_mem (show s.f1.toNat < (nexts (rd_T36 bs s.f0)).length from by omega))
        have hmem : rd (nexts (rd_T36 bs s.f0)) s.f1 ∈ nxB bs s.f0 := List.mem_of_getElem? hget
        generalize rd (nexts (rd_T36 bs s.f0)) s.f1 = tt at *
        by_cases hq : rdOf false met tt = true
        · rw [if_pos hq] at e
          refine ih _ _ _ _ ⟨h.ml, ?_, h.orng, ?_, ?_, ?_, ?_, ?_, h.d2, .inl (by simp)⟩ e
          · intro u hu
            rcases List.mem_cons.1 hu with rfl | hu
            · exact ⟨hs.1, hs.2.1, by dsimp only; omega⟩
            · exact h.rng u (by simp [hu])
          · simpa using h.nd
          · intro b h0 h1; rw [h.mt b h0 h1]; simp
          · simpa using h.ln
          · intro l1 v l2 he
            rcases h.par l1 v l2 he with ⟨p, hp, hv⟩ | ⟨_, _, hn⟩
            · exact .inl ⟨p, by simpa using hp, hv⟩
            · cases hn
          · intro u hu i hi t ht
            rcases List.mem_cons.1 hu with rfl | hu
            · dsimp only at hi ht
              by_cases e2 : (i : Int) < s.f1
              · exact h.d1 s (by simp) i e2 t ht
              · have : i = s.f1.toNat := by omega
                subst this
                rw [hget] at ht
                obtain rfl := Option.some.inj ht
                exact hq
            · exact h.d1 u (by simp [hu]) i hi t ht
        · rw [if_neg hq] at e
          have hnm : ¬ (tt ∈ (s :: st).map (fun s => s.f0) ∨ tt ∈ out) := fun hh => hq ((h.mt tt hto.1 hto.2).2 hh)
          refine ih _ _ _ _ ⟨by rw [List.length_set]; exact h.ml, ?_, h.orng, ?_, ?_, ?_, ?_, ?_, ?_, .inl (by simp)⟩ e
          · intro u hu
            rcases List.mem_cons.1 hu with rfl | hu
            · exact ⟨hto.1, hto.2, Int.le_refl _⟩
            rcases List.mem_cons.1 hu with rfl | hu
            · exact ⟨hs.1, hs.2.1, by dsimp only; omega⟩
            · exact h.rng u (by simp [hu])
          · have := h.nd
            simp only [List.map_cons, List.cons_append] at this ⊢
            refine List.nodup_cons.2 ⟨fun hh => hnm ?_, this⟩
            simp only [List.mem_cons, List.mem_append] at hh
            simp only [List.map_cons, List.mem_cons]
            rcases hh with hh | hh | hh
            · exact .inl (.inl hh)
            · exact .inl (.inr hh)
            · exact .inr hh
          · intro b h0 h1
            rw [rdOf_set hto.1 (by rw [h.ml]; exact hto.2) h0]
            by_cases e2 : b = tt
            · simp [e2]
            · rw [if_neg e2, h.mt b h0 h1]; simp [e2]
          · have := h.ln
            simp only [List.map_cons] at this ⊢
            exact ⟨hmem, this⟩
          · intro l1 v l2 he
            rcases h.par l1 v l2 he with ⟨p, hp, hv⟩ | ⟨_, _, hn⟩
            · refine .inl ⟨p, ?_, hv⟩
              simp only [List.map_cons, List.mem_append, List.mem_cons] at hp ⊢
              rcases hp with hp | hp | hp
              · exact .inl hp
              · exact .inr (.inr (.inl hp))
              · exact .inr (.inr (.inr hp))
            · cases hn
          · intro u hu i hi t ht
            rcases List.mem_cons.1 hu with rfl | hu
            · dsimp only at hi; omega
            rcases List.mem_cons.1 hu with rfl | hu
            · dsimp only at hi ht
              by_cases e2 : (i : Int) < s.f1
              · exact rdOf_up (h.d1 s (by simp) i e2 t ht)
              · have : i = s.f1.toNat := by omega
                subst this
                rw [hget] at ht
                obtain rfl := Option.some.inj ht
                rw [rdOf_set hto.1 (by rw [h.ml]; exact hto.2) hto.1, if_pos rfl]
            · exact rdOf_up (h.d1 u (by simp [hu]) i hi t ht)
          · intro o ho t ht
            exact rdOf_up (h.d2 o ho t ht)
      · rw [if_neg hlt] at e
        refine ih _ _ _ _ ⟨h.ml, fun u hu => h.rng u (by simp [hu]), ?_, ?_, ?_, ?_, ?_, fun u hu => h.d1 u (by simp [hu]), ?_, .inr (by simp)⟩ e
        · intro o ho
          rcases List.mem_append.1 ho with ho | ho
          · exact h.orng o ho
          · rw [List.mem_singleton] at ho; subst ho; exact ⟨hs.1, hs.2.1⟩
        · have := h.nd
          simp only [List.map_cons, List.cons_append] at this
          rw [← List.append_assoc]
          have h2 := List.nodup_cons.1 this
          rw [List.nodup_append]
          refine ⟨h2.2, by simp, fun a ha b hb => ?_⟩
          rw [List.mem_singleton] at hb
          subst hb
          exact fun e => h2.1 (e ▸ ha)
        · intro b h0 h1
          rw [h.mt b h0 h1]
          simp only [List.map_cons, List.mem_cons, List.mem_append, List.not_mem_nil, or_false]
          constructor
          · rintro ((h | h) | h)
            · exact .inr (.inr h)
            · exact .inl h
            · exact .inr (.inl h)
          · rintro (h | h | h)
            · exact .inl (.inr h)
            · exact .inr h
            · exact .inl (.inl h)
        · have := h.ln
          cases st with
          | nil => trivial
          | cons t st => exact this.2
        · intro l1 v l2 he
          have hln := h.ln
          rcases List.eq_nil_or_concat l2 with rfl | ⟨l3, x, rfl⟩
          · have he2 := List.append_inj' he rfl
            have hv : s.f0 = v := by simpa using he2.2
            subst hv
            cases st with
            | nil => exact .inr ⟨hln, rfl, rfl⟩
            | cons t st => exact .inl ⟨t.f0, by simp, hln.1⟩
          · have he' : out ++ [s.f0] = (l1 ++ v :: l3) ++ [x] := by rw [he]; simp
            have he2 := List.append_inj' he' rfl
            have hx : s.f0 = x := by simpa using he2.2
            subst hx
            rcases h.par l1 v l3 he2.1 with ⟨p, hp, hv⟩ | ⟨_, _, hn⟩
            · refine .inl ⟨p, ?_, hv⟩
              simp only [List.map_cons, List.concat_eq_append, List.mem_append, List.mem_cons, List.not_mem_nil, or_false] at hp ⊢
              rcases hp with hp | hp | hp
              · exact .inl (.inl hp)
              · exact .inl (.inr hp)
              · exact .inr hp
            · cases hn
        · intro o ho t ht
          rcases List.mem_append.1 ho with ho | ho
          · exact h.d2 o ho t ht
          · rw [List.mem_singleton] at ho
            subst ho
            obtain ⟨i, hi⟩ := List.getElem?_of_mem ht
            refine h.d1 s (by simp) i ?_ t hi
            have := (List.getElem?_eq_some_iff.1 hi).1
            unfold nxB at this
            omega
structure OrderOk (bs : List S36) (ord : List Int) : Prop where
  nd : ord.Nodup
  ne : 0 < ord.length
  zero : ord.getD 0 0 = 0
  rng : ∀ o ∈ ord, 0 ≤ o ∧ o < bs.length
  next : ∀ o ∈ ord, ∀ t ∈ nxB bs o, t ∈ ord
  par : ∀ i, 0 < i → i < ord.length → ∃ j, j < i ∧ ord.getD i 0 ∈ nxB bs (ord.getD j 0)
theorem getD_rev {l : List Int} {i : Nat} (h : i < l.length) : l.reverse.getD i 0 = l.getD (l.length - 1 - i) 0 := by
  rw [List.getD_eq_getElem?_getD, List.getD_eq_getElem?_getD, List.getElem?_reverse h]
theorem orderS_ok (bs : List S36) (hT : okT bs) (hne : 0 < bs.length) : OrderOk bs (orderS bs) := by
  obtain ⟨r, hr, he⟩ := orderS_eq bs hT hne
  obtain ⟨met, h⟩ := order_inv bs hT _ _ _ _ _ (show OInv (nxB bs) bs.length [⟨0, 0⟩] ((List.replicate bs.length false).set 0 true) [] from {
    ml := by simp
    rng := by simp; omega
    orng := by simp
    nd := by simp
    mt := by
      intro b h0 h1
      have := rdOf_set (met := List.replicate bs.length false) (n := 0) (Int.le_refl _) (by simp; omega) h0
      rw [show (0 : Int).toNat = 0 from rfl] at this
      rw [this]
      by_cases e : b = 0
      · simp [e]
      · rw [if_neg e]
        have : rdOf false (List.replicate bs.length false) b = false := by
          unfold rdOf
          rw [List.getD_eq_getElem?_getD, List.getElem?_replicate]
          split <;> rfl
        rw [this]
        simp [e]
    ln := rfl
    par := by intro l1 v l2 e; simp at e
    d1 := by
      intro s hs i hi
      simp at hs
      subst hs
      dsimp only at hi
      omega
    d2 := by simp
    ne := .inl (by simp) }) hr
  have hne2 : r ≠ [] := by
    rcases h.ne with h | h
    · exact absurd rfl h
    · exact h
  have hnd : r.Nodup := by simpa using h.nd
  have hlen : 0 < r.length := List.length_pos_iff.2 hne2
  rw [← he]
  refine ⟨List.pairwise_reverse.2 (hnd.imp fun h => Ne.symm h), by simpa using hlen, ?_, fun o ho => h.orng o (by simpa using ho), ?_, ?_⟩
  · obtain ⟨l1, v, rfl⟩ : ∃ l1 v, r = l1 ++ [v] := by
      rcases List.eq_nil_or_concat r with h | ⟨l, x, h⟩
      · exact absurd h hne2
      · exact ⟨l, x, by simpa using h⟩
    rcases h.par l1 v [] (by simp) with ⟨p, hp, _⟩ | ⟨hv, _, _⟩
    · simp at hp
    · rw [List.reverse_append]; simpa using hv
  · intro o ho t ht
    have ho : o ∈ r := by simpa using ho
    have hor := h.orng o ho
    have htr := hT _ (getD_mem (d := z36) (by omega : o.toNat < bs.length)) t ht
    have := (h.mt t htr.1 htr.2).1 (h.d2 o ho t ht)
    simpa using this
  · intro i h0 hi
    rw [List.length_reverse] at hi
    have hq : r.length - 1 - i < r.length := by omega
    rw [getD_rev hi]
    have hsp : r = r.take (r.length - 1 - i) ++ r.getD (r.length - 1 - i) 0 :: r.drop (r.length - 1 - i + 1) := by
      rw [← drop_at r _ 0 hq, List.take_append_drop]
    rcases h.par _ _ _ hsp with ⟨p, hp, hv⟩ | ⟨_, hn, _⟩
    · rw [List.map_nil, List.append_nil] at hp
      obtain ⟨j, hj⟩ := List.getElem?_of_mem hp
      rw [List.getElem?_drop] at hj
      have hjl := (List.getElem?_eq_some_iff.1 hj).1
      refine ⟨r.length - 1 - (r.length - 1 - i + 1 + j), by omega, ?_⟩
      rw [getD_rev (by omega), show r.length - 1 - (r.length - 1 - (r.length - 1 - i + 1 + j)) = r.length - 1 - i + 1 + j from by omega]
      rw [show r.getD (r.length - 1 - i + 1 + j) 0 = p from by rw [List.getD_eq_getElem?_getD, hj]; rfl]
      exact hv
    · have : (r.drop (r.length - 1 - i + 1)).length = 0 := by rw [hn]; rfl
      rw [List.length_drop] at this
      omega
end Go.Proofs.Ytjmeignhhheckaa.H
namespace Go.Proofs.Ytjmeignhhheckaa.H
open Go.RowKit Go.Maps Go.Sort Go.Proofs.YtjmeignhhheckaaW.PrintWords Go.Proofs.YtjmeignhhheckaaW.PrintLast Go.Proofs.Ytjmeignhhheckaa.Q
set_option maxRecDepth 100000
def ahGo (bs : List S36) : List Int → List (List Int) → List (List Int)
  | [], f => f
  | b :: r, f => ahGo bs r ((nexts (rd_T36 bs b)).foldl (frmStep b.toNat) f)
def ahRow (bs : List S36) (t : Nat) : List Int → List Int
  | [] => []
  | b :: r => rowOf (nexts (rd_T36 bs b)) b.toNat t ++ ahRow bs t r
theorem ahGo_len (bs : List S36) : ∀ (xs : List Int) (f : List (List Int)), (ahGo bs xs f).length = f.length
  | [], f => rfl
  | b :: r, f => by rw [ahGo, ahGo_len bs r, frmFold_len]
theorem ahGo_snoc (bs : List S36) : ∀ (xs : List Int) (b : Int) (f : List (List Int)), ahGo bs (xs ++ [b]) f = (nexts (rd_T36 bs b)).foldl (frmStep b.toNat) (ahGo bs xs f)
  | [], b, f => rfl
  | y :: r, b, f => by rw [List.cons_append, ahGo, ahGo_snoc bs r b, ahGo]
theorem ahGo_get (bs : List S36) (t : Nat) : ∀ (xs : List Int) (f : List (List Int)), (∀ b ∈ xs, ∀ u ∈ nexts (rd_T36 bs b), 0 ≤ u ∧ u < f.length) → (ahGo bs xs f).getD t [] = f.getD t [] ++ ahRow bs t xs
  | [], f, _ => by simp [ahGo, ahRow]
  | b :: r, f, h => by
    rw [ahGo, ahGo_get bs t r _ (fun c hc u hu => by rw [frmFold_len]; exact h c (by simp [hc]) u hu), frmFold_get _ _ _ _ (fun u hu => h b (by simp) u hu), ahRow, List.append_assoc]
theorem ahRow_len (bs : List S36) (t : Nat) : ∀ (xs : List Int), (ahRow bs t xs).length ≤ xs.length
  | [] => Nat.le_refl _
  | b :: r => by
    rw [ahRow, List.length_append, List.length_cons]
    have h1 := rowOf_len (rd_T36 bs b) b.toNat t
    have h2 := ahRow_len bs t r
    omega
theorem mem_ahRow (bs : List S36) (t : Nat) (c : Int) : ∀ (xs : List Int), (∀ b ∈ xs, 0 ≤ b) → (c ∈ ahRow bs t xs ↔ c ∈ xs ∧ (t : Int) ∈ nexts (rd_T36 bs c))
  | [], _ => by simp [ahRow]
  | b :: r, h => by
    have h0 := h b (by simp)
    rw [ahRow, List.mem_append, mem_ahRow bs t c r (fun x hx => h x (by simp [hx])), List.mem_cons]
    have hr : c ∈ rowOf (nexts (rd_T36 bs b)) b.toNat t ↔ c = b ∧ (t : Int) ∈ nexts (rd_T36 bs b) := by
      unfold rowOf
      simp only [List.mem_map, List.mem_filter, decide_eq_true_eq]
      constructor
      · rintro ⟨u, ⟨hu, rfl⟩, rfl⟩
        exact ⟨by omega, hu⟩
      · rintro ⟨rfl, hu⟩
        exact ⟨_, ⟨hu, rfl⟩, by omega⟩
    rw [hr]
    constructor
    · rintro (⟨rfl, h1⟩ | ⟨h1, h2⟩)
      · exact ⟨.inl rfl, h1⟩
      · exact ⟨.inr h1, h2⟩
    · rintro ⟨h1 | h1, h2⟩
      · subst h1; exact .inl ⟨rfl, h2⟩
      · exact .inr ⟨h1, h2⟩
def sortTo (rows : List (List Int)) (m : Nat) : List (List Int) := (rows.take m).map sortI ++ rows.drop m
theorem sortTo_zero (rows : List (List Int)) : sortTo rows 0 = rows := by simp [sortTo]
theorem sortTo_all (rows : List (List Int)) : sortTo rows rows.length = rows.map sortI := by simp [sortTo]
theorem sortTo_len (rows : List (List Int)) (m : Nat) : (sortTo rows m).length = rows.length := by simp [sortTo]; omega
theorem sortTo_get (rows : List (List Int)) (m : Nat) (h : m < rows.length) : (sortTo rows m).getD m [] = rows.getD m [] := by
  have : (rows.take m).length = m := by rw [List.length_take]; omega
  simp [sortTo, List.getElem?_append_right, this, List.getElem?_drop, Nat.min_eq_left (Nat.le_of_lt h)]
theorem sortTo_step (rows : List (List Int)) (m : Nat) (h : m < rows.length) : sortTo rows (m + 1) = (sortTo rows m).set m (sortI (rows.getD m [])) := by
  have h1 : ((rows.take m).map sortI).length = m := by rw [List.length_map, List.length_take]; omega
  unfold sortTo
  rw [List.set_append_right _ _ (by omega), h1, Nat.sub_self, List.take_succ_eq_append_getElem h, List.map_append, List.append_assoc]
  have e : rows.getD m [] = rows[m] := by simp [h]
  rw [e, List.drop_eq_getElem_cons h]
  rfl
def ahS (bs : List S36) : List (List Int) := (ahGo bs (orderS bs) (List.replicate bs.length [])).map sortI
theorem FR.turn {w w1 : World} {base g i : Nat} {vs : List Value} {rows : List (List Int)} {ys : List Int} (h : FR w base g vs rows) (hi : i < rows.length) (hR : RI w1 base (vs.getD i undef) ys)
    (hg : w.grownBy w1 (vs.getD i undef).ownBlock) : FR w1 base g vs (rows.set i ys) := by
  refine ⟨blk_grown h.blk hg (fun e => ?_), by rw [List.length_set]; exact h.len, ?_, ?_⟩
  · obtain ⟨cs, hcs⟩ := (h.row i hi).typed g e.symm
    rw [h.blk] at hcs
    injection hcs with e2
    injection e2 with _ e3 _
    cases e3
  · intro j hj
    rw [List.length_set] at hj
    rw [getD_set_rows hi]
    by_cases e : i = j
    · subst e
      rw [if_pos rfl]
      exact hR
    · rw [if_neg e]
      exact (h.row j hj).apart hg (fun k hk e2 => h.sep j i hj hi (fun e3 => e e3.symm) k hk e2)
  · intro a b ha hb hab k hk
    rw [List.length_set] at ha hb
    exact h.sep a b ha hb hab k hk
abbrev kRowI : Kd (List Int) := Kd.slice 3 (Kd.int .i64)
theorem FR.toS {w : World} {base g : Nat} {vs : List Value} {rows : List (List Int)} (h : FR w base g vs rows) (hb : base ≤ g) (hn : rows.length ≤ 9223372036854775807) : Kd.S kRowI 37 w base (fun _ => True) (.slice (some ⟨g, 0, none⟩) rows.length rows.length) rows := by
  classical
  refine ⟨fun k => if hx : ∃ i, i < rows.length ∧ (vs.getD i undef).ownBlock = some k then hx.choose else 0, fun _ _ => trivial, vs, ?_, ?_, ?_⟩
  · rw [List.length_zipIdx]
    exact ⟨by show vs.length = rows.length * 1; rw [h.len, Nat.mul_one], .inr ⟨g, rows.length, vs.toArray, rfl, hb, h.blk, Nat.le_refl _, by simpa [maxLen] using hn, by show vs.toArray.size = rows.length * 1; simp [h.len], by
      show List.take (rows.length * 1) vs.toArray.toList = vs
      rw [List.take_of_length_le (by simp [h.len])]⟩⟩
  · rw [List.length_zipIdx]
    show vs.length = rows.length * 1
    rw [h.len, Nat.mul_one]
  · intro j p hj
    rw [List.getElem?_zipIdx, Nat.zero_add] at hj
    obtain ⟨x, hx, rfl⟩ := Option.map_eq_some_iff.1 hj
    have hjl : j < rows.length := (List.getElem?_eq_some_iff.1 hx).1
    have hr := h.row j hjl
    have hxe : rows.getD j [] = x := by rw [List.getD_eq_getElem?_getD, hx]; rfl
    rw [hxe] at hr
    refine ⟨vs.getD j undef, ?_, Kd.R_of_own (Kd.own_of_R hr) (fun k hk => ⟨⟨trivial, ?_⟩, ?_⟩)⟩
    · show List.take 1 (List.drop (j * 1) vs) = _
      have hjv : j < vs.length := by rw [h.len]; exact hjl
      rw [Nat.mul_one, List.drop_eq_getElem_cons hjv, show vs.getD j undef = vs[j] from by simp [hjv]]
      rfl
    · intro e
      have : g = k := by simpa [Value.ownBlock] using e.symm
      subst this
      obtain ⟨cs, hcs⟩ := hr.typed g hk
      rw [h.blk] at hcs
      injection hcs with e2
      injection e2 with _ e3 _
      cases e3
    · have hex : ∃ i, i < rows.length ∧ (vs.getD i undef).ownBlock = some k := ⟨j, hjl, hk⟩
      show (if hx : ∃ i, i < rows.length ∧ (vs.getD i undef).ownBlock = some k then hx.choose else 0) = j
      rw [dif_pos hex]
      have := hex.choose_spec
      refine Classical.byContradiction fun hne => ?_
      exact h.sep hex.choose j this.1 hjl hne k this.2 hk
end Go.Proofs.Ytjmeignhhheckaa.H
namespace Go.Proofs.Ytjmeignhhheckaa.D
def Tree (T : Nat → Nat) (k : Nat) : Prop := ∀ i, 0 < i → i < k → T i < i
inductive Anc (T : Nat → Nat) : Nat → Nat → Prop where
  | refl (p : Nat) : Anc T p p
  | step {x p : Nat} (h0 : 0 < p) (h : Anc T x (T p)) : Anc T x p
theorem anc_iff {T : Nat → Nat} {x p : Nat} : Anc T x p ↔ x = p ∨ (0 < p ∧ Anc T x (T p)) := by
  constructor
  · intro h
    cases h with
    | refl => exact .inl rfl
    | step h0 h => exact .inr ⟨h0, h⟩
  · rintro (rfl | ⟨h0, h⟩)
    · exact .refl _
    · exact .step h0 h
theorem anc_le {T : Nat → Nat} {k x p : Nat} (hT : Tree T k) (h : Anc T x p) (hp : p < k) : x ≤ p := by
  induction h with
  | refl => exact Nat.le_refl _
  | @step p h0 h ih =>
    have := hT p h0 hp
    have := ih (by omega)
    omega
theorem anc_trans {T : Nat → Nat} {x y p : Nat} (h : Anc T x y) (h2 : Anc T y p) : Anc T x p := by
  induction h2 with
  | refl => exact h
  | step h0 _ ih => exact .step h0 ih
theorem anc_anti {T : Nat → Nat} {k x y : Nat} (hT : Tree T k) (hx : x < k) (hy : y < k) (h : Anc T x y) (h2 : Anc T y x) : x = y := by
  have := anc_le hT h hy
  have := anc_le hT h2 hx
  omega
theorem anc_line {T : Nat → Nat} {x y p : Nat} (h : Anc T x p) (h2 : Anc T y p) : Anc T x y ∨ Anc T y x := by
  induction h with
  | refl => exact .inr h2
  | @step p h0 h ih =>
    rcases anc_iff.1 h2 with rfl | ⟨_, h2⟩
    · exact .inl (.step h0 h)
    · exact ih h2
theorem anc_zero {T : Nat → Nat} {k p : Nat} (hT : Tree T k) (hp : p < k) : Anc T 0 p := by
  induction p using Nat.strongRecOn with
  | _ p ih =>
    by_cases h : p = 0
    · subst h; exact .refl _
    · have := hT p (by omega) hp
      exact .step (by omega) (ih (T p) this (by omega))
theorem anc_same {T U : Nat → Nat} {k x p : Nat} (hT : Tree T k) (h : ∀ i, i < k → U i = T i) (hp : p < k) : Anc U x p ↔ Anc T x p := by
  induction p using Nat.strongRecOn with
  | _ p ih =>
    rw [anc_iff, @anc_iff T, h p hp]
    by_cases h0 : 0 < p
    · have := hT p h0 hp
      rw [ih (T p) this (by omega)]
    · simp [h0]
/-- where two ways up meet -/
def Meets (T : Nat → Nat) (a b c : Nat) : Prop := ∀ x, Anc T x c ↔ Anc T x a ∧ Anc T x b
def meetS (T : Nat → Nat) : Nat → Nat → Nat → Nat
  | 0, a, _ => a
  | f + 1, a, b => if a = b then a else if b < a then meetS T f (T a) b else meetS T f a (T b)
theorem meetS_meets {T : Nat → Nat} {k : Nat} (hT : Tree T k) : ∀ (f a b : Nat), a < k → b < k → a + b ≤ f → Meets T a b (meetS T f a b) ∧ meetS T f a b < k := by
  intro f
  induction f with
  | zero =>
    intro a b ha hb hf
    have h1 : a = 0 := by omega
    have h2 : b = 0 := by omega
    subst h1; subst h2
    exact ⟨fun x => ⟨fun h => ⟨h, h⟩, fun h => h.1⟩, ha⟩
  | succ f ih =>
    intro a b ha hb hf
    simp only [meetS]
    by_cases e : a = b
    · rw [if_pos e]
      subst e
      exact ⟨fun x => ⟨fun h => ⟨h, h⟩, fun h => h.1⟩, ha⟩
    · rw [if_neg e]
      by_cases hlt : b < a
      · rw [if_pos hlt]
        have hta := hT a (by omega) ha
        have := ih (T a) b (by omega) hb (by omega)
        refine ⟨fun x => ?_, this.2⟩
        rw [this.1 x]
        constructor
        · rintro ⟨h1, h2⟩; exact ⟨.step (by omega) h1, h2⟩
        · rintro ⟨h1, h2⟩
          refine ⟨?_, h2⟩
          rcases anc_iff.1 h1 with rfl | ⟨_, h1⟩
          · have := anc_le hT h2 hb; omega
          · exact h1
      · rw [if_neg hlt]
        have htb := hT b (by omega) hb
        have := ih a (T b) ha (by omega) (by omega)
        refine ⟨fun x => ?_, this.2⟩
        rw [this.1 x]
        constructor
        · rintro ⟨h1, h2⟩; exact ⟨h1, .step (by omega) h2⟩
        · rintro ⟨h1, h2⟩
          refine ⟨h1, ?_⟩
          rcases anc_iff.1 h2 with rfl | ⟨_, h2⟩
          · have := anc_le hT h1 ha; omega
          · exact h2
theorem anc_ext {T : Nat → Nat} {k c d : Nat} (hT : Tree T k) (hc : c < k) (hd : d < k) (h : ∀ x, Anc T x c ↔ Anc T x d) : c = d :=
  anc_anti hT hc hd ((h c).1 (.refl _)) ((h d).2 (.refl _))
/-- what the ones ahead of a node have in common, c -/
def Common (T : Nat → Nat) (Q : List Nat) (c : Nat) : Prop := ∀ x, Anc T x c ↔ ∀ p ∈ Q, Anc T x p
structure Phase (T : Nat → Nat) (P : Nat → List Nat) (n : Nat) (F : Nat → Prop) (D : Nat → Nat) : Prop where
  tree : Tree T (n + 1)
  t0 : T 0 = 0
  -- T is right but for n's ways
  com : ∀ b, 0 < b → b ≤ n → Common T ((P b).filter fun p => decide (p < n)) (T b)
  non : ∀ b, 0 < b → b ≤ n → ∃ p, p ∈ P b ∧ p < n
  -- what has changed
  fl : ∀ b, F b → 0 < b ∧ b ≤ n ∧ ¬ Anc T (T b) n
  ju : ∀ b, F b → n ∈ P b ∨ ∃ p u, p ∈ P b ∧ p < n ∧ F u ∧ Anc T u p ∧ Anc T (T b) u ∧ u ≠ T b
  yes : ∀ b, F b → Meets T b n (D b) ∧ D b ≤ n
  no : ∀ b, b ≤ n → ¬ F b → D b = T b
theorem Phase.tlt {T P n F D} (h : Phase T P n F D) {b : Nat} (h0 : 0 < b) (hb : b ≤ n) : T b < b := h.tree b h0 (by omega)
theorem Phase.dlt {T P n F D} (h : Phase T P n F D) {b : Nat} (h0 : 0 < b) (hb : b ≤ n) : D b < b := by
  by_cases hf : F b
  · have hm := h.yes b hf
    have h1 := (hm.1 (D b)).1 (.refl _)
    have h2 := anc_le h.tree h1.1 (by omega)
    refine Nat.lt_of_le_of_ne h2 (fun e => ?_)
    have h3 : Anc T b n := by rw [e] at h1; exact h1.2
    exact (h.fl b hf).2.2 (anc_trans (.step h0 (.refl _)) h3)
  · rw [h.no b hb hf]; exact h.tlt h0 hb
theorem Phase.dtree {T P n F D} (h : Phase T P n F D) : Tree D (n + 1) := fun i h0 hi => h.dlt h0 (by omega)
/-- the ways up as they are now -/
theorem Phase.anc {T P n F D} (h : Phase T P n F D) {x p : Nat} (hp : p ≤ n) : Anc D x p ↔ Anc T x p ∧ (Anc T x n ∨ ¬ ∃ u, F u ∧ Anc T u p ∧ Anc T x u ∧ u ≠ x) := by
  induction p using Nat.strongRecOn generalizing x with
  | _ p ih =>
    by_cases h0 : p = 0
    · subst h0
      have h1 : Anc D x 0 ↔ x = 0 := by rw [anc_iff]; simp
      have h2 : Anc T x 0 ↔ x = 0 := by rw [anc_iff]; simp
      rw [h1, h2]
      constructor
      · rintro rfl
        exact ⟨rfl, .inl (anc_zero h.tree (by omega))⟩
      · exact fun h => h.1
    · have hpos : 0 < p := by omega
      by_cases hx : x = p
      · subst hx
        refine ⟨fun _ => ⟨.refl _, .inr ?_⟩, fun _ => .refl _⟩
        rintro ⟨u, _, hu1, hu2, hu3⟩
        exact hu3 (anc_anti h.tree (by have := anc_le h.tree hu1 (by omega); omega) (by omega) hu1 hu2)
      · have hD : Anc D x p ↔ Anc D x (D p) := by rw [anc_iff]; simp [hx, hpos]
        have hT : Anc T x p ↔ Anc T x (T p) := by rw [anc_iff]; simp [hx, hpos]
        have hdl := h.dlt hpos hp
        rw [hD, ih (D p) hdl (by omega)]
        by_cases hf : F p
        · have hm := (h.yes p hf).1
          have hsp : Anc T (D p) n := ((hm _).1 (.refl _)).2
          constructor
          · rintro ⟨h1, _⟩
            have := (hm x).1 h1
            exact ⟨this.1, .inl this.2⟩
          · rintro ⟨h1, h2⟩
            rcases h2 with h2 | h2
            · exact ⟨(hm x).2 ⟨h1, h2⟩, .inl h2⟩
            · exact absurd ⟨p, hf, .refl _, h1, fun e => hx e.symm⟩ h2
        · rw [h.no p hp hf, hT]
          have : (∃ u, F u ∧ Anc T u p ∧ Anc T x u ∧ u ≠ x) ↔ (∃ u, F u ∧ Anc T u (T p) ∧ Anc T x u ∧ u ≠ x) := by
            constructor
            · rintro ⟨u, h1, h2, h3⟩
              rcases anc_iff.1 h2 with rfl | ⟨_, h2⟩
              · exact absurd h1 hf
              · exact ⟨u, h1, h2, h3⟩
            · rintro ⟨u, h1, h2, h3⟩
              exact ⟨u, h1, .step hpos h2, h3⟩
          rw [this]
/-- what a look at b finds: nothing new; or b joins those that have changed -/
theorem Phase.look {T P n F D} (h : Phase T P n F D) {b e : Nat} (h0 : 0 < b) (hb : b ≤ n) (he : e ≤ n) (hc : Common D ((P b).filter fun p => decide (p ≤ n)) e) (hne : e ≠ D b) :
    ¬ F b ∧ Phase T P n (fun i => F i ∨ i = b) (fun i => if i = b then e else D i) := by
  have hy := h.tlt h0 hb
  have hyn : T b ≤ n := by omega
  have hcom := h.com b h0 hb
  have hA : ∀ p, p ∈ P b → p < n → Anc T (T b) p := fun p hp hl => (hcom (T b)).1 (.refl _) p (by simp [hp, hl])
  have hB : ∀ x, (∀ p, p ∈ P b → p < n → Anc T x p) → Anc T x (T b) := fun x hx => (hcom x).2 fun p hp => by
    simp only [List.mem_filter, decide_eq_true_eq] at hp
    exact hx p hp.1 hp.2
  have hc1 : ∀ x, Anc D x e ↔ ∀ p, p ∈ P b → p ≤ n → Anc D x p := fun x => by
    rw [hc x]
    simp only [List.mem_filter, decide_eq_true_eq, and_imp]
  obtain ⟨p0, hp0, hl0⟩ := h.non b h0 hb
  have hDt := h.dtree
  -- where the one ahead lies on the way to n, it stays
  have case1 : Anc T (T b) n → e = T b := by
    intro hs
    refine anc_ext hDt (by omega) (by omega) fun x => ?_
    rw [hc1 x, h.anc hyn]
    constructor
    · intro hx
      have := hB x fun p hp hl => ((h.anc (by omega)).1 (hx p hp (by omega))).1
      exact ⟨this, .inl (anc_trans this hs)⟩
    · rintro ⟨h1, _⟩ p hp hl
      by_cases hpn : p = n
      · subst hpn
        exact (h.anc (Nat.le_refl _)).2 ⟨anc_trans h1 hs, .inl (anc_trans h1 hs)⟩
      · exact (h.anc hl).2 ⟨anc_trans h1 (hA p hp (by omega)), .inl (anc_trans h1 hs)⟩
  have case2 : ¬ (n ∈ P b ∨ ∃ p u, p ∈ P b ∧ p < n ∧ F u ∧ Anc T u p ∧ Anc T (T b) u ∧ u ≠ T b) → e = T b := by
    intro hn
    have hnn : n ∉ P b := fun hh => hn (.inl hh)
    have hnu : ∀ p u, p ∈ P b → p < n → F u → Anc T u p → Anc T (T b) u → u = T b := fun p u h1 h2 h3 h4 h5 => Classical.byContradiction fun h6 => hn (.inr ⟨p, u, h1, h2, h3, h4, h5, h6⟩)
    refine anc_ext hDt (by omega) (by omega) fun x => ?_
    rw [hc1 x, h.anc hyn]
    constructor
    · intro hx
      have hxy := hB x fun p hp hl => ((h.anc (by omega)).1 (hx p hp (by omega))).1
      refine ⟨hxy, ?_⟩
      have := ((h.anc (by omega)).1 (hx p0 hp0 (by omega))).2
      rcases this with h1 | h1
      · exact .inl h1
      · refine .inr ?_
        rintro ⟨u, hu1, hu2, hu3, hu4⟩
        exact h1 ⟨u, hu1, anc_trans hu2 (hA p0 hp0 hl0), hu3, hu4⟩
    · rintro ⟨h1, h2⟩ p hp hl
      have hpn : p < n := by
        by_cases e : p = n
        · subst e; exact absurd hp hnn
        · omega
      refine (h.anc hl).2 ⟨anc_trans h1 (hA p hp hpn), ?_⟩
      rcases h2 with h2 | h2
      · exact .inl h2
      · refine .inr ?_
        rintro ⟨u, hu1, hu2, hu3, hu4⟩
        rcases anc_line hu2 (hA p hp hpn) with h3 | h3
        · exact h2 ⟨u, hu1, h3, hu3, hu4⟩
        · have := hnu p u hp hpn hu1 hu2 h3
          subst this
          exact h2 ⟨T b, hu1, .refl _, hu3, hu4⟩
  -- it has changed: it lies on the way to n now
  have case3 : (n ∈ P b ∨ ∃ p u, p ∈ P b ∧ p < n ∧ F u ∧ Anc T u p ∧ Anc T (T b) u ∧ u ≠ T b) → ¬ Anc T (T b) n → Meets T b n e := by
    intro hj hs
    obtain ⟨hm, hml⟩ := meetS_meets h.tree (b + n) b n (by omega) (by omega) (Nat.le_refl _)
    have hz : ∀ x, Anc T x (meetS T (b + n) b n) ↔ Anc T x (T b) ∧ Anc T x n := by
      intro x
      rw [hm x]
      constructor
      · rintro ⟨h1, h2⟩
        refine ⟨?_, h2⟩
        rcases anc_iff.1 h1 with rfl | ⟨_, h1⟩
        · exact absurd (anc_trans (.step h0 (.refl _)) h2) hs
        · exact h1
      · rintro ⟨h1, h2⟩
        exact ⟨.step h0 h1, h2⟩
    have hzs : Anc T (meetS T (b + n) b n) n := ((hz _).1 (.refl _)).2
    have : e = meetS T (b + n) b n := by
      refine anc_ext hDt (by omega) hml fun x => ?_
      rw [hc1 x, h.anc (by omega)]
      constructor
      · intro hx
        have hxy := hB x fun p hp hl => ((h.anc (by omega)).1 (hx p hp (by omega))).1
        have hxs : Anc T x n := by
          rcases hj with hj | ⟨p, u, hp, hl, hu, h4, h5, h6⟩
          · exact ((h.anc (Nat.le_refl _)).1 (hx n hj (Nat.le_refl _))).1
          · rcases ((h.anc (by omega)).1 (hx p hp (by omega))).2 with h7 | h7
            · exact h7
            · refine absurd ⟨u, hu, h4, anc_trans hxy h5, fun e => h6 ?_⟩ h7
              subst e
              exact anc_anti h.tree (by have := (h.fl u hu).2.1; omega) (by omega) hxy h5
        have := (hz x).2 ⟨hxy, hxs⟩
        exact ⟨this, .inl hxs⟩
      · rintro ⟨h1, _⟩ p hp hl
        have h2 := (hz x).1 h1
        by_cases hpn : p = n
        · subst hpn
          exact (h.anc (Nat.le_refl _)).2 ⟨h2.2, .inl h2.2⟩
        · exact (h.anc hl).2 ⟨anc_trans h2.1 (hA p hp (by omega)), .inl h2.2⟩
    rw [this]
    exact hm
  have hnf : ¬ F b := by
    intro hf
    have h1 := case3 (h.ju b hf) (h.fl b hf).2.2
    have h2 := h.yes b hf
    exact hne (anc_ext h.tree (by omega) (by omega) fun x => by rw [h1 x, h2.1 x])
  have hDb := h.no b hb hnf
  rw [hDb] at hne
  have hs : ¬ Anc T (T b) n := fun hs => hne (case1 hs)
  have hj := Classical.byContradiction fun hn => hne (case2 hn)
  refine ⟨hnf, h.tree, h.t0, h.com, h.non, ?_, ?_, ?_, ?_⟩
  · rintro i (hi | rfl)
    · exact h.fl i hi
    · exact ⟨h0, hb, hs⟩
  · have hup : ∀ i, (n ∈ P i ∨ ∃ p u, p ∈ P i ∧ p < n ∧ F u ∧ Anc T u p ∧ Anc T (T i) u ∧ u ≠ T i) → (n ∈ P i ∨ ∃ p u, p ∈ P i ∧ p < n ∧ (F u ∨ u = b) ∧ Anc T u p ∧ Anc T (T i) u ∧ u ≠ T i) := by
      rintro i (h1 | ⟨p, u, h1, h2, h3, h4⟩)
      · exact .inl h1
      · exact .inr ⟨p, u, h1, h2, .inl h3, h4⟩
    rintro i (hi | rfl)
    · exact hup i (h.ju i hi)
    · exact hup i hj
  · rintro i (hi | rfl)
    · by_cases e2 : i = b
      · subst e2; exact absurd hi hnf
      · simp only [e2, if_false]; exact h.yes i hi
    · simp only [if_true]
      exact ⟨case3 hj hs, he⟩
  · intro i hi hn
    have : i ≠ b := fun e2 => hn (.inr e2)
    simp only [this, if_false]
    exact h.no i hi (fun hf => hn (.inl hf))
/-- nothing has changed since: the next node comes -/
theorem Phase.next {T P n F D} (h : Phase T P n F D) (hst : ∀ b, 0 < b → b ≤ n → Common D ((P b).filter fun p => decide (p ≤ n)) (D b)) {e : Nat} (he : e ≤ n) (hc : Common D ((P (n + 1)).filter fun p => decide (p ≤ n)) e) (hn : ∃ p, p ∈ P (n + 1) ∧ p ≤ n) (hD0 : D 0 = 0) :
    Phase (fun i => if i = n + 1 then e else D i) P (n + 1) (fun _ => False) (fun i => if i = n + 1 then e else D i) := by
  have hsame : ∀ i, i < n + 1 → (fun i => if i = n + 1 then e else D i) i = D i := fun i hi => by
    have : i ≠ n + 1 := by omega
    simp [this]
  have han : ∀ x p, p ≤ n → (Anc (fun i => if i = n + 1 then e else D i) x p ↔ Anc D x p) := fun x p hp => anc_same h.dtree hsame (by omega)
  refine ⟨?_, ?_, ?_, ?_, fun _ hf => hf.elim, fun _ hf => hf.elim, fun _ hf => hf.elim, fun _ _ _ => rfl⟩
  · intro i h0 hi
    by_cases e2 : i = n + 1
    · simp only [e2, if_true]; omega
    · simp only [e2, if_false]; exact h.dlt h0 (by omega)
  · show (if 0 = n + 1 then e else D 0) = 0
    rw [if_neg (by omega)]; exact hD0
  · intro b h0 hb x
    have hle : ∀ p, p ∈ (P b).filter (fun p => decide (p < n + 1)) ↔ p ∈ (P b).filter (fun p => decide (p ≤ n)) := fun p => by
      simp only [List.mem_filter, decide_eq_true_eq]
      constructor
      · rintro ⟨h1, h2⟩; exact ⟨h1, by omega⟩
      · rintro ⟨h1, h2⟩; exact ⟨h1, by omega⟩
    by_cases e2 : b = n + 1
    · subst e2
      simp only [if_true]
      rw [han x e he, hc x]
      constructor
      · intro h1 p hp
        have := (hle p).1 hp
        rw [han x p (by simpa using (List.mem_filter.1 this).2)]
        exact h1 p this
      · intro h1 p hp
        rw [← han x p (by simpa using (List.mem_filter.1 hp).2)]
        exact h1 p ((hle p).2 hp)
    · simp only [e2, if_false]
      have hbn : b ≤ n := by omega
      have := h.dlt h0 hbn
      rw [han x (D b) (by omega), hst b h0 hbn x]
      constructor
      · intro h1 p hp
        have := (hle p).1 hp
        rw [han x p (by simpa using (List.mem_filter.1 this).2)]
        exact h1 p this
      · intro h1 p hp
        rw [← han x p (by simpa using (List.mem_filter.1 hp).2)]
        exact h1 p ((hle p).2 hp)
  · intro b h0 hb
    by_cases e2 : b = n + 1
    · subst e2
      obtain ⟨p, h1, h2⟩ := hn
      exact ⟨p, h1, by omega⟩
    · obtain ⟨p, h1, h2⟩ := h.non b h0 (by omega)
      exact ⟨p, h1, by omega⟩
/-- the first node alone -/
theorem Phase.start (P : Nat → List Nat) (D : Nat → Nat) (hD : D 0 = 0) : Phase D P 0 (fun _ => False) D :=
  ⟨fun i h0 hi => by omega, hD, fun b h0 hb => by omega, fun b h0 hb => by omega, fun _ hf => hf.elim, fun _ hf => hf.elim, fun _ hf => hf.elim, fun _ _ _ => rfl⟩
end Go.Proofs.Ytjmeignhhheckaa.D
namespace Go.Proofs.Ytjmeignhhheckaa.D
def meetB (num dom : List Int) : Nat → Int → Int → Int
  | 0, a, _ => a
  | f + 1, a, b => if a = b then a else if num.getD b.toNat 0 < num.getD a.toNat 0 then meetB num dom f (dom.getD a.toNat 0) b else meetB num dom f a (dom.getD b.toNat 0)
def evalB (num dom : List Int) (f : Nat) : List Int → Int → Int
  | [], d => d
  | p :: r, d => if dom.getD p.toNat 0 < 0 then evalB num dom f r d else if d < 0 then evalB num dom f r p else evalB num dom f r (meetB num dom f d p)
def sweepB (num : List Int) (frm : List (List Int)) (f : Nat) (dom : List Int) : List Int → Option (List Int)
  | [] => none
  | b :: r => if evalB num dom f (frm.getD b.toNat []) (-1) = dom.getD b.toNat 0 then sweepB num frm f dom r else some (dom.set b.toNat (evalB num dom f (frm.getD b.toNat []) (-1)))
def domGo (num : List Int) (frm : List (List Int)) (f : Nat) (l : List Int) : Nat → List Int → Option (List Int)
  | 0, _ => none
  | k + 1, dom => match sweepB num frm f dom l with
    | none => some dom
    | some dom' => domGo num frm f l k dom'
structure Env (nb m : Nat) (ord num : List Int) (frm : List (List Int)) : Prop where
  len : ord.length = m
  m0 : 0 < m
  zero : ord.getD 0 0 = 0
  rng : ∀ i, i < m → 0 ≤ ord.getD i 0 ∧ ord.getD i 0 < nb
  nms : ∀ i, i < m → num.getD (ord.getD i 0).toNat 0 = i
  frs : ∀ i, i < m → ∀ p ∈ frm.getD (ord.getD i 0).toNat [], ∃ j, j < m ∧ p = ord.getD j 0
  non : ∀ i, 0 < i → i < m → ∃ p ∈ frm.getD (ord.getD i 0).toNat [], ∃ j, j < i ∧ p = ord.getD j 0
theorem Env.inj {nb m ord num frm} (h : Env nb m ord num frm) {i j : Nat} (hi : i < m) (hj : j < m) (e : ord.getD i 0 = ord.getD j 0) : i = j := by
  have h1 := h.nms i hi
  have h2 := h.nms j hj
  rw [e, h2] at h1
  omega
theorem Env.injN {nb m ord num frm} (h : Env nb m ord num frm) {i j : Nat} (hi : i < m) (hj : j < m) (e : (ord.getD i 0).toNat = (ord.getD j 0).toNat) : i = j := by
  have h1 := h.rng i hi
  have h2 := h.rng j hj
  exact h.inj hi hj (by omega)
/-- the ones ahead, by their numbers -/
def pre (ord num : List Int) (frm : List (List Int)) (i : Nat) : List Nat := (frm.getD (ord.getD i 0).toNat []).map fun p => (num.getD p.toNat 0).toNat
/-- the first k are given, by D -/
structure Rel (nb m : Nat) (ord : List Int) (dom : List Int) (k : Nat) (D : Nat → Nat) : Prop where
  len : dom.length = nb
  yes : ∀ i, i < k → dom.getD (ord.getD i 0).toNat 0 = ord.getD (D i) 0
  no : ∀ b : Nat, b < nb → (∀ i, i < k → (ord.getD i 0).toNat ≠ b) → dom.getD b 0 = -1
theorem meetB_eq {nb m ord num frm} (h : Env nb m ord num frm) {dom : List Int} {k : Nat} {D : Nat → Nat} (hr : Rel nb m ord dom k D) (hk : k ≤ m) (hT : Tree D k) : ∀ (f a b : Nat), a < k → b < k → a + b ≤ f → meetB num dom f (ord.getD a 0) (ord.getD b 0) = ord.getD (meetS D f a b) 0 := by
  intro f
  induction f with
  | zero => intro a b _ _ _; rfl
  | succ f ih =>
    intro a b ha hb hf
    simp only [meetB, meetS]
    by_cases e : a = b
    · subst e; rw [if_pos rfl, if_pos rfl]
    · rw [if_neg e, if_neg (fun e2 => e (h.inj (by omega) (by omega) e2))]
      rw [h.nms a (by omega), h.nms b (by omega)]
      by_cases hlt : b < a
      · have := hT a (by omega) ha
        rw [if_pos (by omega), if_pos hlt, hr.yes a ha]
        exact ih _ _ (by omega) hb (by omega)
      · have := hT b (by omega) hb
        rw [if_neg (by omega), if_neg hlt, hr.yes b hb]
        exact ih _ _ ha (by omega) (by omega)
theorem filter_snoc_yes {k a : Nat} {l : List Nat} (h : a < k) : ∀ x, x ∈ (l ++ [a]).filter (fun p => decide (p < k)) ↔ x ∈ l.filter (fun p => decide (p < k)) ∨ x = a := by
  intro x
  simp only [List.mem_filter, List.mem_append, List.mem_singleton, decide_eq_true_eq]
  constructor
  · rintro ⟨h1 | h1, h2⟩
    · exact .inl ⟨h1, h2⟩
    · exact .inr h1
  · rintro (⟨h1, h2⟩ | rfl)
    · exact ⟨.inl h1, h2⟩
    · exact ⟨.inr rfl, h⟩
/-- what the look at the ones ahead finds -/
theorem evalB_eq {nb m ord num frm} (h : Env nb m ord num frm) {dom : List Int} {k : Nat} {D : Nat → Nat} (hr : Rel nb m ord dom k D) (hk : k ≤ m) (hT : Tree D k) (hD : ∀ i, i < k → D i < k) {f : Nat} (hf : 2 * m ≤ f) :
    ∀ (l : List Int), (∀ p ∈ l, ∃ j, j < m ∧ p = ord.getD j 0) → ∀ (seen : List Nat) (d : Int), (d = -1 ∧ (seen.filter fun p => decide (p < k)) = [] ∨ ∃ e, e < k ∧ d = ord.getD e 0 ∧ Common D (seen.filter fun p => decide (p < k)) e) →
      (evalB num dom f l d = -1 ∧ ((seen ++ l.map fun p => (num.getD p.toNat 0).toNat).filter fun p => decide (p < k)) = [] ∨
        ∃ e, e < k ∧ evalB num dom f l d = ord.getD e 0 ∧ Common D ((seen ++ l.map fun p => (num.getD p.toNat 0).toNat).filter fun p => decide (p < k)) e) := by
  intro l
  induction l with
  | nil =>
    intro _ seen d hd
    simp only [evalB, List.map_nil, List.append_nil]
    exact hd
  | cons p l ih =>
    intro hl seen d hd
    obtain ⟨j, hj, rfl⟩ := hl p (by simp)
    have hnj : (num.getD (ord.getD j 0).toNat 0).toNat = j := by rw [h.nms j hj]; omega
    have hcat : seen ++ List.map (fun p => (num.getD p.toNat 0).toNat) (ord.getD j 0 :: l) = (seen ++ [j]) ++ List.map (fun p => (num.getD p.toNat 0).toNat) l := by
      rw [List.map_cons, hnj, List.append_assoc]; rfl
    rw [hcat]
    have hl' : ∀ p ∈ l, ∃ j, j < m ∧ p = ord.getD j 0 := fun p hp => hl p (by simp [hp])
    simp only [evalB]
    by_cases hjk : j < k
    · have hy := hr.yes j hjk
      have hrg := h.rng (D j) (by have := hD j hjk; omega)
      rw [if_neg (by rw [hy]; omega)]
      rcases hd with ⟨rfl, hs⟩ | ⟨e, he, rfl, hc⟩
      · rw [if_pos (by omega)]
        refine ih hl' _ _ (.inr ⟨j, hjk, rfl, fun x => ?_⟩)
        constructor
        · intro hx p hp
          rcases (filter_snoc_yes hjk p).1 hp with hp | rfl
          · rw [hs] at hp; cases hp
          · exact hx
        · intro hx
          exact hx j ((filter_snoc_yes hjk j).2 (.inr rfl))
      · have hre := h.rng e (by omega)
        rw [if_neg (by omega), meetB_eq h hr hk hT f e j he hjk (by omega)]
        obtain ⟨hm, hml⟩ := meetS_meets hT f e j he hjk (by omega)
        refine ih hl' _ _ (.inr ⟨_, hml, rfl, fun x => ?_⟩)
        rw [hm x, hc x]
        constructor
        · rintro ⟨h1, h2⟩ p hp
          rcases (filter_snoc_yes hjk p).1 hp with hp | rfl
          · exact h1 p hp
          · exact h2
        · intro hx
          exact ⟨fun p hp => hx p ((filter_snoc_yes hjk p).2 (.inl hp)), hx j ((filter_snoc_yes hjk j).2 (.inr rfl))⟩
    · have hrj := h.rng j hj
      have hn := hr.no (ord.getD j 0).toNat (by omega) (fun i hi e => by have := h.injN (by omega) hj e; omega)
      rw [if_pos (by rw [hn]; omega)]
      have hfs : (seen ++ [j]).filter (fun p => decide (p < k)) = seen.filter (fun p => decide (p < k)) := by
        rw [List.filter_append]; simp [hjk]
      refine ih hl' _ _ ?_
      rw [hfs]; exact hd
theorem sweep_spec (num : List Int) (frm : List (List Int)) (f : Nat) (dom : List Int) (ord : List Int) : ∀ (d j : Nat), j + d = ord.length →
    (sweepB num frm f dom (ord.drop j) = none ∧ ∀ b, j ≤ b → b < ord.length → evalB num dom f (frm.getD (ord.getD b 0).toNat []) (-1) = dom.getD (ord.getD b 0).toNat 0) ∨
    ∃ b, j ≤ b ∧ b < ord.length ∧ (∀ i, j ≤ i → i < b → evalB num dom f (frm.getD (ord.getD i 0).toNat []) (-1) = dom.getD (ord.getD i 0).toNat 0) ∧ evalB num dom f (frm.getD (ord.getD b 0).toNat []) (-1) ≠ dom.getD (ord.getD b 0).toNat 0 ∧
      sweepB num frm f dom (ord.drop j) = some (dom.set (ord.getD b 0).toNat (evalB num dom f (frm.getD (ord.getD b 0).toNat []) (-1))) := by
  intro d
  induction d with
  | zero =>
    intro j hj
    left
    rw [List.drop_of_length_le (by omega)]
    exact ⟨rfl, fun b h1 h2 => by omega⟩
  | succ d ih =>
    intro j hj
    have hjl : j < ord.length := by omega
    have hdr : ord.drop j = ord.getD j 0 :: ord.drop (j + 1) := by
      rw [List.drop_eq_getElem_cons hjl, List.getD_eq_getElem?_getD, List.getElem?_eq_getElem hjl]; rfl
    rw [hdr]
    simp only [sweepB]
    by_cases e : evalB num dom f (frm.getD (ord.getD j 0).toNat []) (-1) = dom.getD (ord.getD j 0).toNat 0
    · rw [if_pos e]
      rcases ih (j + 1) (by omega) with ⟨h1, h2⟩ | ⟨b, h1, h2, h3, h4, h5⟩
      · left
        refine ⟨h1, fun b hb hb2 => ?_⟩
        by_cases ej : b = j
        · subst ej; exact e
        · exact h2 b (by omega) hb2
      · right
        refine ⟨b, by omega, h2, fun i hi hi2 => ?_, h4, h5⟩
        by_cases ej : i = j
        · subst ej; exact e
        · exact h3 i (by omega) hi2
    · rw [if_neg e]
      right
      exact ⟨j, Nat.le_refl _, hjl, fun i hi hi2 => by omega, e, rfl⟩
theorem nodup_len : ∀ (n : Nat) (L : List Nat), L.Nodup → (∀ i ∈ L, i < n) → L.length ≤ n := by
  intro n
  induction n with
  | zero =>
    intro L _ h
    cases L with
    | nil => exact Nat.le_refl _
    | cons a L => have := h a (by simp); omega
  | succ n ih =>
    intro L hn h
    have h1 : (L.erase n).length ≤ n := ih _ (hn.erase n) fun i hi => by
      have := (List.Nodup.mem_erase_iff hn).1 hi
      have := h i this.2
      omega
    have h2 := List.length_erase_le (a := n) (l := L)
    by_cases hm : n ∈ L
    · have := List.length_erase_of_mem hm
      omega
    · rw [List.erase_of_not_mem hm] at h1
      omega
theorem getD_set_i {l : List Int} {i j : Nat} {v : Int} (h : i < l.length) : (l.set i v).getD j 0 = if i = j then v else l.getD j 0 := by
  simp only [List.getD_eq_getElem?_getD]
  by_cases e : i = j
  · subst e; rw [List.getElem?_set_self h]; simp
  · rw [List.getElem?_set_ne e, if_neg e]
theorem rel_set {nb m ord num frm} (h : Env nb m ord num frm) {dom : List Int} {k : Nat} {D : Nat → Nat} (hr : Rel nb m ord dom k D) {b k2 e : Nat} (hb : b < m) (hb2 : b < k2) (hk2 : k2 = k ∨ k2 = k + 1 ∧ b = k) :
    k2 ≤ m → Rel nb m ord (dom.set (ord.getD b 0).toNat (ord.getD e 0)) k2 (fun i => if i = b then e else D i) := by
  intro hm
  have hbr := h.rng b hb
  have hbl : (ord.getD b 0).toNat < dom.length := by rw [hr.len]; omega
  have hset : ∀ j v, (dom.set (ord.getD b 0).toNat v).getD j 0 = if (ord.getD b 0).toNat = j then v else dom.getD j 0 := fun j v => getD_set_i hbl
  refine ⟨by rw [List.length_set]; exact hr.len, fun i hi => ?_, fun c hc hn => ?_⟩
  · rw [hset]
    by_cases e2 : i = b
    · subst e2; simp
    · rw [if_neg (fun e3 => e2 (h.injN (by omega) hb e3.symm)), if_neg e2]
      exact hr.yes i (by omega)
  · rw [hset, if_neg (hn b hb2)]
    exact hr.no c hc fun i hi => hn i (by omega)
theorem dom_ends {nb m ord num frm} (h : Env nb m ord num frm) {f : Nat} (hf : 2 * m ≤ f) : ∀ (fuel n : Nat) (L : List Nat) (D T : Nat → Nat) (dom : List Int),
    Phase T (pre ord num frm) n (fun i => i ∈ L) D → Rel nb m ord dom (n + 1) D → L.Nodup → D 0 = 0 → n < m → (m - (n + 1)) * (m + 2) + (n + 1 - L.length) < fuel →
    ∃ dom' D', domGo num frm f (ord.drop 1) fuel dom = some dom' ∧ Rel nb m ord dom' m D' ∧ D' 0 = 0 ∧ Tree D' m ∧ ∀ b, 0 < b → b < m → Common D' (pre ord num frm b) (D' b) := by
  intro fuel
  induction fuel with
  | zero => intro n L D T dom _ _ _ _ _ hk; omega
  | succ fuel ih =>
    intro n L D T dom hp hr hL hD0 hn hfu
    have hDl : ∀ i, i < n + 1 → D i < n + 1 := fun i hi => by
      by_cases h0 : i = 0
      · subst h0; omega
      · have := hp.dlt (by omega : 0 < i) (by omega); omega
    have hLn : L.length ≤ n := by
      have : (0 :: L).length ≤ n + 1 := nodup_len (n + 1) _ (List.nodup_cons.2 ⟨fun h0 => by have := (hp.fl 0 h0).1; omega, hL⟩) (fun i hi => by
        rcases List.mem_cons.1 hi with rfl | hi
        · omega
        · have := hp.fl i hi; omega)
      simp only [List.length_cons] at this
      omega
    have hev : ∀ b, b < m → (evalB num dom f (frm.getD (ord.getD b 0).toNat []) (-1) = -1 ∧ ((pre ord num frm b).filter fun p => decide (p < n + 1)) = [] ∨
        ∃ e, e < n + 1 ∧ evalB num dom f (frm.getD (ord.getD b 0).toNat []) (-1) = ord.getD e 0 ∧ Common D ((pre ord num frm b).filter fun p => decide (p < n + 1)) e) := fun b hb => by
      have := evalB_eq h hr (by omega) hp.dtree hDl hf (frm.getD (ord.getD b 0).toNat []) (h.frs b hb) [] (-1) (.inl ⟨rfl, rfl⟩)
      simpa [pre] using this
    have hle : ∀ b, ((pre ord num frm b).filter fun p => decide (p < n + 1)) = ((pre ord num frm b).filter fun p => decide (p ≤ n)) := fun b => by
      apply List.filter_congr
      intro x _
      exact decide_eq_decide.2 (by omega)
    have hnon : ∀ b, 0 < b → b < m → b ≤ n + 1 → ∃ p, p ∈ pre ord num frm b ∧ p ≤ n ∧ p < b := fun b h0 hb hbn => by
      obtain ⟨p, hp1, j, hj, rfl⟩ := h.non b h0 hb
      refine ⟨j, ?_, by omega, hj⟩
      unfold pre
      rw [List.mem_map]
      exact ⟨_, hp1, by rw [h.nms j (by omega)]; omega⟩
    have hyes : ∀ b, 0 < b → b < m → b ≤ n + 1 → ∃ e, e ≤ n ∧ evalB num dom f (frm.getD (ord.getD b 0).toNat []) (-1) = ord.getD e 0 ∧ Common D ((pre ord num frm b).filter fun p => decide (p ≤ n)) e := fun b h0 hb hbn => by
      rcases hev b hb with ⟨_, h2⟩ | ⟨e, h1, h2, h3⟩
      · obtain ⟨p, hp1, hp2, _⟩ := hnon b h0 hb hbn
        have : p ∈ (pre ord num frm b).filter fun p => decide (p < n + 1) := by
          rw [List.mem_filter]; exact ⟨hp1, by simp; omega⟩
        rw [h2] at this; cases this
      · rw [hle] at h3
        exact ⟨e, by omega, h2, h3⟩
    have hst : ∀ b, 0 < b → b ≤ n → evalB num dom f (frm.getD (ord.getD b 0).toNat []) (-1) = dom.getD (ord.getD b 0).toNat 0 → Common D ((pre ord num frm b).filter fun p => decide (p ≤ n)) (D b) := fun b h0 hb he => by
      obtain ⟨e, h1, h2, h3⟩ := hyes b h0 (by omega) (by omega)
      rw [hr.yes b (by omega), h2] at he
      have := h.inj (by omega) (by have := hDl b (by omega); omega) he
      rw [← this]; exact h3
    simp only [domGo]
    rcases sweep_spec num frm f dom ord (m - 1) 1 (by rw [h.len]; have := h.m0; omega) with ⟨h1, h2⟩ | ⟨b, h1, h2, h3, h4, h5⟩
    · rw [h1]
      have hnm : n + 1 = m := by
        refine Classical.byContradiction fun hne => ?_
        obtain ⟨e, he1, he2, _⟩ := hyes (n + 1) (by omega) (by omega) (Nat.le_refl _)
        have := h2 (n + 1) (by omega) (by rw [h.len]; omega)
        have hrg := h.rng e (by omega)
        have hrn := h.rng (n + 1) (by omega)
        rw [he2, hr.no _ (by omega) (fun i hi e => by have := h.injN (by omega) (by omega) e; omega)] at this
        omega
      subst hnm
      refine ⟨dom, D, rfl, hr, hD0, hp.dtree, fun b h0 hb => ?_⟩
      have := hst b h0 (by omega) (h2 b (by omega) (by rw [h.len]; omega))
      have hall : ((pre ord num frm b).filter fun p => decide (p ≤ n)) = pre ord num frm b := by
        rw [List.filter_eq_self]
        intro p hp1
        unfold pre at hp1
        rw [List.mem_map] at hp1
        obtain ⟨q, hq, rfl⟩ := hp1
        obtain ⟨j, hj, rfl⟩ := h.frs b hb q hq
        rw [h.nms j hj]
        simp; omega
      rwa [hall] at this
    · rw [h5]
      rw [h.len] at h2
      by_cases hbn : b ≤ n
      · obtain ⟨e, he1, he2, he3⟩ := hyes b (by omega) h2 (by omega)
        have hne : e ≠ D b := fun e2 => by rw [he2, hr.yes b (by omega), e2] at h4; exact h4 rfl
        obtain ⟨hnf, hph⟩ := hp.look (by omega) hbn he1 he3 hne
        have hset := rel_set h hr (b := b) (k2 := n + 1) (e := e) h2 (by omega) (.inl rfl) (by omega)
        rw [← he2] at hset
        have hF : (fun i => i ∈ L ∨ i = b) = (fun i => i ∈ b :: L) := by
          funext i
          simp only [List.mem_cons, eq_iff_iff]
          constructor
          · rintro (h | h)
            · exact .inr h
            · exact .inl h
          · rintro (h | h)
            · exact .inr h
            · exact .inl h
        rw [hF] at hph
        refine ih n (b :: L) _ T _ hph hset (List.nodup_cons.2 ⟨hnf, hL⟩) ?_ hn ?_
        · have : (0 : Nat) ≠ b := by omega
          simp only [this, if_false]; exact hD0
        · simp only [List.length_cons]
          omega
      · have hbe : b = n + 1 := by
          refine Classical.byContradiction fun hne => ?_
          obtain ⟨e, he1, he2, _⟩ := hyes (n + 1) (by omega) (by omega) (Nat.le_refl _)
          have := h3 (n + 1) (by omega) (by omega)
          have hrg := h.rng e (by omega)
          have hrn := h.rng (n + 1) (by omega)
          rw [he2, hr.no _ (by omega) (fun i hi e => by have := h.injN (by omega) (by omega) e; omega)] at this
          omega
        subst hbe
        obtain ⟨e, he1, he2, he3⟩ := hyes (n + 1) (by omega) h2 (Nat.le_refl _)
        have hset := rel_set h hr (b := n + 1) (k2 := n + 2) (e := e) h2 (by omega) (.inr ⟨rfl, rfl⟩) (by omega)
        rw [← he2] at hset
        obtain ⟨q, hq1, hq2, _⟩ := hnon (n + 1) (by omega) h2 (Nat.le_refl _)
        have hph := hp.next (fun b h0 hb => hst b h0 hb (h3 b (by omega) (by omega))) he1 he3 ⟨q, hq1, hq2⟩ hD0
        have hF : (fun _ : Nat => False) = (fun i => i ∈ ([] : List Nat)) := by
          funext i; simp
        rw [hF] at hph
        refine ih (n + 1) [] _ _ _ hph hset List.nodup_nil ?_ h2 ?_
        · have : (0 : Nat) ≠ n + 1 := by omega
          simp only [this, if_false]; exact hD0
        · simp only [List.length_nil]
          have hmul : (m - (n + 1 + 1) + 1) * (m + 2) = (m - (n + 1 + 1)) * (m + 2) + (m + 2) := by rw [Nat.add_mul]; omega
          have : m - (n + 1) = m - (n + 1 + 1) + 1 := by omega
          rw [this] at hfu
          omega
end Go.Proofs.Ytjmeignhhheckaa.D
namespace Go.Proofs.Ytjmeignhhheckaa.H
open Go.RowKit Go.Maps Go.Proofs.YtjmeignhhheckaaW.PrintWords Go.Proofs.YtjmeignhhheckaaW.PrintLast Go.Proofs.Ytjmeignhhheckaa.Q
set_option maxRecDepth 100000
structure AFr (w : World) (G : Array Value) (vs : List Value) (rows : List (List Int)) (tv : Value) (todo : List Int) (wr : World) : Prop where
  b : Below w.heap.size w wr
  c0 : wr.heap[w.heap.size]? = some (.cells G 25 (0, 0))
  fr : FR wr w.heap.size (w.heap.size + 1) vs rows
  td : RI wr w.heap.size tv todo
  ap : ∀ i, i < rows.length → ∀ k, (vs.getD i undef).ownBlock = some k → tv.ownBlock ≠ some k
theorem AFr.below {w : World} {G : Array Value} {vs : List Value} {rows : List (List Int)} {tv : Value} {todo : List Int} {wr wr' : World} (h : AFr w G vs rows tv todo wr) (hb : Below wr.heap.size wr wr') : AFr w G vs rows tv todo wr' :=
  ⟨below_step h.b hb, blk_below h.c0 hb, h.fr.below hb, h.td.below hb, h.ap⟩
theorem AFr.alloc {w : World} {G : Array Value} {vs : List Value} {rows : List (List Int)} {tv : Value} {todo : List Int} {wr : World} (h : AFr w G vs rows tv todo wr) (o : Obj) : AFr w G vs rows tv todo (wr.alloc o) := h.below ((Below.refl _ wr).alloc (Nat.le_refl _) o)
theorem RI.neg {w : World} {base g t : Nat} {v : Value} {xs : List Int} {C : Array Value} (h : RI w base v xs) (hc : w.heap[g]? = some (.cells C t (0, 0))) (ht : t ≠ 3) : ∀ k, v.ownBlock = some k → k ≠ g := by
  intro k hk e
  subst e
  obtain ⟨cs, hcs⟩ := h.typed k hk
  rw [hc] at hcs
  injection hcs with e2
  injection e2 with _ e3 _
  exact ht e3
theorem FR.cellAt {w : World} {base g : Nat} {vs : List Value} {rows : List (List Int)} (h : FR w base g vs rows) (i : Nat) (hi : i < rows.length) : w.cell? ⟨g, i, none⟩ = some (vs.getD i undef) ∧ w.frozen? ⟨g, i, none⟩ = false := by
  refine ⟨?_, blk_frozen h.blk i⟩
  rw [blk_cell h.blk]
  have : i < vs.length := by rw [h.len]; exact hi
  simp [this]
theorem FR.cellThen {w w1 : World} {base g : Nat} {vs : List Value} {rows : List (List Int)} (h : FR w base g vs rows) (i : Nat) (hi : i < rows.length) (hg : w.grownBy w1 (vs.getD i undef).ownBlock) : w1.cell? ⟨g, i, none⟩ = some (vs.getD i undef) ∧ w1.frozen? ⟨g, i, none⟩ = false := by
  have hb := blk_grown h.blk hg (fun e => (h.row i hi).neg h.blk (by decide) _ e.symm rfl)
  refine ⟨?_, blk_frozen hb i⟩
  rw [blk_cell hb]
  have : i < vs.length := by rw [h.len]; exact hi
  simp [this]
/-- a row has been appended to, and stored -/
theorem AFr.row {w : World} {G : Array Value} {vs : List Value} {rows : List (List Int)} {tv v1 : Value} {todo ys : List Int} {wr wr' : World} {i : Nat} (h : AFr w G vs rows tv todo wr) (hi : i < rows.length)
    (hR : RI wr' w.heap.size v1 ys) (hg : wr.grownBy wr' (vs.getD i undef).ownBlock) (hat : v1.ownBlock = (vs.getD i undef).ownBlock ∨ ∃ b, v1.ownBlock = some b ∧ wr.heap.size ≤ b) :
    AFr w G (vs.set i v1) (rows.set i ys) tv todo (wr'.setCell ⟨w.heap.size + 1, i, none⟩ v1) := by
  have hr := h.fr.row i hi
  have hf := h.fr.append hi hR hg hat
  have hs : wr'.grownBy (wr'.setCell ⟨w.heap.size + 1, i, none⟩ v1) (some (w.heap.size + 1)) := grown_put1 i v1
  have hblk2 : wr'.heap[w.heap.size + 1]? = some (.cells vs.toArray 37 (0, 0)) := blk_grown h.fr.blk hg (fun e => hr.neg h.fr.blk (by decide) _ e.symm rfl)
  refine ⟨(h.b.grown hg h.b.size (fun k hk => Kd.R_base hr k hk)).grown hs (Nat.le_trans h.b.size hg.size) (fun k hk => by cases hk; omega),
    blk_grown (blk_grown h.c0 hg (fun e => hr.neg h.c0 (by decide) _ e.symm rfl)) hs (fun e => by have := Option.some.inj e; omega), hf,
    (h.td.apart hg (fun k hk e => h.ap i hi k e hk)).other hblk2 (by decide) hs, fun j hj k hk => ?_⟩
  rw [List.length_set] at hj
  rw [getD_set_val (by rw [h.fr.len]; exact hi)] at hk
  split at hk
  · rcases hat with hat | ⟨b, hat, hb⟩
    · rw [hat] at hk; exact h.ap i hi k hk
    · rw [hat] at hk
      intro e
      have := h.td.lt k e
      have := Option.some.inj hk
      omega
  · exact h.ap j hj k hk
theorem AFr.rowN {w : World} {G : Array Value} {vs : List Value} {rows : List (List Int)} {tv v1 nv : Value} {todo nl : List Int} {wr wr' : World} {i B : Nat} (h : AFr w G vs rows tv todo wr) (hi : i < rows.length)
    (hN : RI wr B nv nl) (hap : ∀ j, j < rows.length → ∀ k, (vs.getD j undef).ownBlock = some k → nv.ownBlock ≠ some k)
    (hg : wr.grownBy wr' (vs.getD i undef).ownBlock) (hat : v1.ownBlock = (vs.getD i undef).ownBlock ∨ ∃ b, v1.ownBlock = some b ∧ wr.heap.size ≤ b) :
    RI (wr'.setCell ⟨w.heap.size + 1, i, none⟩ v1) B nv nl ∧ ∀ j, j < rows.length → ∀ k, ((vs.set i v1).getD j undef).ownBlock = some k → nv.ownBlock ≠ some k := by
  have hblk2 : wr'.heap[w.heap.size + 1]? = some (.cells vs.toArray 37 (0, 0)) := blk_grown h.fr.blk hg (fun e => (h.fr.row i hi).neg h.fr.blk (by decide) _ e.symm rfl)
  refine ⟨(hN.apart hg (fun k hk e => hap i hi k e hk)).other hblk2 (by decide) (grown_put1 i v1), fun j hj k hk => ?_⟩
  rw [getD_set_val (by rw [h.fr.len]; exact hi)] at hk
  split at hk
  · rcases hat with hat | ⟨b, hat, hb⟩
    · rw [hat] at hk; exact hap i hi k hk
    · rw [hat] at hk
      intro e
      have := hN.lt k e
      have := Option.some.inj hk
      omega
  · exact hap j hj k hk
/-- a row has been sorted -/
theorem AFr.turn {w : World} {G : Array Value} {vs : List Value} {rows : List (List Int)} {tv : Value} {todo ys : List Int} {wr wr' : World} {i : Nat} (h : AFr w G vs rows tv todo wr) (hi : i < rows.length)
    (hR : RI wr' w.heap.size (vs.getD i undef) ys) (hg : wr.grownBy wr' (vs.getD i undef).ownBlock) : AFr w G vs (rows.set i ys) tv todo wr' := by
  have hr := h.fr.row i hi
  refine ⟨h.b.grown hg h.b.size (fun k hk => Kd.R_base hr k hk), blk_grown h.c0 hg (fun e => hr.neg h.c0 (by decide) _ e.symm rfl), h.fr.turn hi hR hg, h.td.apart hg (fun k hk e => h.ap i hi k e hk), fun j hj k hk => ?_⟩
  rw [List.length_set] at hj
  exact h.ap j hj k hk
set_option maxHeartbeats 4000000 in
theorem ahead_any (A0 A2 : Option Addr) (c0 c2 : Nat) (a1 : Int) (l0 : List Bool) (bs : List S36) (w : World) (h0 : Kd.C Kd.bool w A0 l0.length l0) (hc0 : l0.length ≤ c0) (hC : Kd.C k36 w A2 bs.length bs) (hc : bs.length ≤ c2) (hne : 0 < bs.length) (hn : bs.length ≤ 5000) (hT : okT bs) :
    Calls Try.prog 86 #[.agg #[.slice A0 l0.length c0, .int .i64 a1, .slice A2 bs.length c2]] w fun e w' => ∃ v : Value, e = .returned v ∧ Kd.S kRowI 37 w' w.heap.size (fun _ => True) v (ahS bs) ∧ Below w.heap.size w w' := by
  have HC0 := Lib.hid h0
  have HL0 := Lib.hid hc0
  have HC := Lib.hid hC
  have HO := Lib.hid (orderS_ok bs hT hne)
  have HTT := Lib.hid hT
  have HOF := Lib.hid (show paths_Order.f l0 a1 bs = some (orderS bs) from by unfold paths_Order.f; rw [if_pos ⟨hne, hn, hT⟩])
  clear h0 hc0 hC hT
  have hm2 := make28 bs.length (by omega)
  have hu25 := Try.underlying25
  have hu36 := Try.underlying36
  have HB0 := Lib.hid (below_alloc (below_alloc (Below.refl w.heap.size w) (.cells #[.slice A0 l0.length c0, .int .i64 a1, .slice A2 bs.length c2] 25)) (.cells (Array.replicate bs.length (.slice none 0 0)) 37))
  have HG0 := Lib.hid (blk_alloc (blk_new w (.cells #[.slice A0 l0.length c0, .int .i64 a1, .slice A2 bs.length c2] 25)) (.cells (Array.replicate bs.length (.slice none 0 0)) 37))
  have HR0 := Lib.hid (show FR ((w.alloc (.cells #[.slice A0 l0.length c0, .int .i64 a1, .slice A2 bs.length c2] 25)).alloc (.cells (Array.replicate bs.length (.slice none 0 0)) 37)) w.heap.size (w.heap.size + 1) (List.replicate bs.length (.slice none 0 0)) (List.replicate bs.length []) from by
    have e3 := blk_new (w.alloc (.cells #[.slice A0 l0.length c0, .int .i64 a1, .slice A2 bs.length c2] 25)) (.cells (Array.replicate bs.length (.slice none 0 0)) 37)
    simp only [World.size_alloc] at e3
    exact FR.start (by rw [show (List.replicate bs.length (Value.slice none 0 0)).toArray = Array.replicate bs.length (Value.slice none 0 0) from by simp]; exact e3))
  go_enter Try.func86, Try.ntmps86
  go_wp2_with (go_at_call 85; go_loud (refine (paths_Order.calls A0 c0 l0 a1 A2 c2 bs (orderS bs) _ (Kd.C_below HC0.out HB0.out) HL0.out (Kd.C_below HC.out HB0.out) hc HOF.out).mono ?_; rintro e w1 ⟨v, rfl, hR1, hb1⟩; obtain ⟨A5, c5, hv5, hc5, hC5⟩ := Kd.R_reads hR1; clear hC5 hc5; subst hv5; have HF := Lib.hid (show AFr w #[.slice A0 l0.length c0, .int .i64 a1, .slice A2 bs.length c2] (List.replicate bs.length (.slice none 0 0)) (List.replicate bs.length []) (.slice A5 (orderS bs).length c5) (orderS bs) w1 from ⟨below_step HB0.out hb1, blk_below HG0.out hb1, HR0.out.below hb1, Kd.R_lower hR1 HB0.out.size, fun i hi k hk => by (rw [List.length_replicate] at hi; simp [List.getElem?_replicate, hi, Value.ownBlock] at hk)⟩); clear hR1 hb1))
  clear hm2 HB0 HG0 HR0 HOF
  have hol : (orderS bs).length ≤ bs.length := by
    have : ((orderS bs).map Int.toNat).length ≤ bs.length := D.nodup_len bs.length _ (by
      refine (List.pairwise_map.2 (HO.out.nd.imp_of_mem (fun ha hb h e => h ?_)))
      have h1 := HO.out.rng _ ha
      have h2 := HO.out.rng _ hb
      omega) (fun i hi => by
      obtain ⟨o, ho, rfl⟩ := List.mem_map.1 hi
      have := HO.out.rng o ho
      omega)
    rwa [List.length_map] at this
  have HRG := Lib.hid HO.out.rng
  have HNX := Lib.hid (show ∀ b ∈ orderS bs, ∀ u ∈ nexts (rd_T36 bs b), 0 ≤ u ∧ u < bs.length from fun b hb => by
    have h1 := HRG.out b hb
    exact HTT.out _ (getD_mem (d := z36) (by omega : b.toNat < bs.length)))
  clear HO HTT
  have HAS := Lib.hid (show ahS bs = (ahGo bs (orderS bs) (List.replicate bs.length [])).map sortI from rfl)
  generalize orderS bs = ord at *
  go_loopw [17] (fun j wr => ∃ (m : Nat) (vs : List Value), m ≤ ord.length ∧ j = .int .i64 m ∧ AFr w #[.slice A0 l0.length c0, .int .i64 a1, .slice A2 bs.length c2] vs (ahGo bs (ord.take m) (List.replicate bs.length [])) (.slice A5 ord.length c5) ord wr) (fun j _ => ord.length - (intOf j).toNat)
  case atStart => exact ⟨0, _, Nat.zero_le _, rfl, HF.out⟩
  case round =>
    clear HF
    obtain ⟨m, vs, hm, rfl, hF⟩ := hrel
    have HF := Lib.hid hF
    clear hF
    have hrl : (ahGo bs (ord.take m) (List.replicate bs.length [])).length = bs.length := by rw [ahGo_len, List.length_replicate]
    by_cases hlt : m < ord.length
    · obtain ⟨A6, c6, hv6, hc6, hC6⟩ := Kd.R_reads HF.out.td
      obtain ⟨hA6, hc6'⟩ : A6 = A5 ∧ c6 = c5 := by injection hv6 with e _ e2; exact ⟨e.symm, e2.symm⟩
      subst hA6 hc6'
      obtain ⟨ad6, hA6, f0⟩ := Kd.at_int hC6 (m : Int) (by omega) (by omega)
      subst hA6
      simp only [Int.toNat_natCast] at f0
      clear hC6 hv6 hc6
      have hmem : rd ord m ∈ ord := by unfold rd; exact getD_mem (by omega)
      have HBR := Lib.hid (HRG.out _ hmem)
      have HBN := Lib.hid (HNX.out _ hmem)
      have HTK := Lib.hid (take_snoc_int ord m hlt)
      have HRD := Lib.hid (show ord.getD m 0 = rd ord m from rfl)
      clear hmem
      generalize rd ord m = b at *
      obtain ⟨bn, rfl⟩ := Int.eq_ofNat_of_zero_le HBR.out.1
      have hbl : bn < bs.length := by have := HBR.out.2; omega
      have hg2 : wr.cell? ⟨w.heap.size, 2, none⟩ = some (.slice A2 bs.length c2) := (blk_cell HF.out.c0 2).trans rfl
      obtain ⟨ad2, A3, c3, hA, b0, b1, b2, b3, b4, hc3, hC3⟩ := at_T36 (Kd.C_below HC.out HF.out.b) (bn : Int) (by omega) (by omega)
      subst hA
      simp only [Int.toNat_natCast] at b0 b1 b2 b3 b4
      have HGS := Lib.hid (show ahGo bs (ord.take (m + 1)) (List.replicate bs.length []) = (nexts (rd_T36 bs (bn : Int))).foldl (frmStep bn) (ahGo bs (ord.take m) (List.replicate bs.length [])) from by
        rw [HTK.out, ahGo_snoc, HRD.out, Int.toNat_natCast])
      have HRT := Lib.hid (show ∀ t : Nat, ((ahGo bs (ord.take m) (List.replicate bs.length [])).getD t []).length ≤ 5000 from fun t => by
        rw [ahGo_get bs t (ord.take m) _ (fun x hx u hu => by rw [List.length_replicate]; exact HNX.out x (List.mem_of_mem_take hx) u hu)]
        have h1 := ahRow_len bs t (ord.take m)
        rw [List.length_take] at h1
        have h2 : ((List.replicate bs.length ([] : List Int)).getD t []).length = 0 := by
          rw [List.getD_eq_getElem?_getD, List.getElem?_replicate]
          split <;> rfl
        rw [List.length_append, h2]
        omega)
      generalize ahGo bs (ord.take m) (List.replicate bs.length []) = rows at *
      generalize rd_T36 bs (bn : Int) = bk at *
      have HC3 := Lib.hid hC3
      have HLC := Lib.hid hc3
      clear hC3 hc3
      go_wp2_with (go_at_call 64; go_loud (refine (next_calls A3 c3 bk _ HC3.out HLC.out).mono ?_; rintro e w2 ⟨v, rfl, hR1, hb1⟩; have HF1 := Lib.hid (HF.out.below (by exact hb1)); have HN0 := Lib.hid hR1; clear hb1 hR1 b0 b1 b2 b3 b4; obtain ⟨A7, c7, hv7, hc7, hC7⟩ := Kd.R_reads HN0.out; clear hC7; subst hv7))
      have hap : ∀ i, i < rows.length → ∀ k, (vs.getD i undef).ownBlock = some k → (Value.slice A7 (nexts bk).length c7).ownBlock ≠ some k := by
        intro i hi k hk e
        have h1 := (HF.out.fr.row i hi).lt k hk
        have h2 := Kd.R_base HN0.out k e
        omega
      have hn2 := nexts_len bk
      have HAP := Lib.hid hap
      clear hap HF f0
      generalize hB5 : wr.heap.size = B5 at *
      clear hB5
      generalize hnv : nexts bk = nl at *
      go_loopw [28] (fun j wr => ∃ (q : Nat) (vs2 : List Value), q ≤ nl.length ∧ j = .int .i64 q ∧ AFr w #[.slice A0 l0.length c0, .int .i64 a1, .slice (some ad2) bs.length c2] vs2 ((nl.take q).foldl (frmStep bn) rows) (.slice (some ad6) ord.length c6) ord wr ∧ RI wr B5 (.slice A7 nl.length c7) nl ∧ (∀ i, i < bs.length → ∀ k, (vs2.getD i undef).ownBlock = some k → (Value.slice A7 nl.length c7).ownBlock ≠ some k)) (fun j _ => nl.length - (intOf j).toNat)
      case atStart => exact ⟨0, _, Nat.zero_le _, rfl, HF1.out, HN0.out, by rw [← hrl]; exact HAP.out⟩
      case round =>
        clear HF1 HN0 HAP
        obtain ⟨q, vs2, hq, rfl, hF, hN, hAP⟩ := hrel
        have HF := Lib.hid hF
        have HN := Lib.hid hN
        have HAP := Lib.hid hAP
        clear hF hN hAP
        by_cases hlt2 : q < nl.length
        · obtain ⟨A6, c8, hv6, hc6, hC6⟩ := Kd.R_reads HN.out
          have hA6 : A6 = A7 := by injection hv6 with e; exact e.symm
          subst hA6
          obtain ⟨ad7, hA6, f0⟩ := Kd.at_int hC6 (q : Int) (by omega) (by omega)
          subst hA6
          simp only [Int.toNat_natCast] at f0
          clear hC6 hv6 hc6
          have HT := Lib.hid (show 0 ≤ rd nl q ∧ rd nl q < bs.length from HBN.out _ (by unfold rd; exact getD_mem (by omega)))
          have HT1 := Lib.hid (take_snoc_int nl q hlt2)
          have HRD2 := Lib.hid (show nl.getD q 0 = rd nl q from rfl)
          generalize rd nl q = t at *
          obtain ⟨tn, rfl⟩ := Int.eq_ofNat_of_zero_le HT.out.1
          have htl : tn < bs.length := by have := HT.out.2; omega
          have HRL := Lib.hid (show ((nl.take q).foldl (frmStep bn) rows).length = bs.length from by rw [frmFold_len]; exact hrl)
          have HFS := Lib.hid (show (nl.take (q + 1)).foldl (frmStep bn) rows = ((nl.take q).foldl (frmStep bn) rows).set tn (((nl.take q).foldl (frmStep bn) rows).getD tn [] ++ [(bn : Int)]) from by
            rw [HT1.out, List.foldl_append, HRD2.out]; rfl)
          have HRL2 := Lib.hid (show (((nl.take q).foldl (frmStep bn) rows).getD tn []).length ≤ 6000 from by
            rw [frmFold_get bn tn (nl.take q) rows (fun u hu => by rw [hrl]; exact HBN.out u (List.mem_of_mem_take hu))]
            have h1 := HRT.out tn
            have h2 : (rowOf (nl.take q) bn tn).length ≤ (nl.take q).length := by
              unfold rowOf
              rw [List.length_map]
              exact List.length_filter_le _ _
            rw [List.length_take] at h2
            rw [List.length_append]
            omega)
          generalize (nl.take q).foldl (frmStep bn) rows = rw_ at *
          have hti : tn < rw_.length := by rw [HRL.out]; exact htl
          have hce := (HF.out.fr.cellAt tn hti).1
          have HE := Lib.hid (HF.out.fr.row tn hti)
          have HFA := HF
          have HNA := HN
          have HCA := Lib.hid (fun (w1 : World) => HFA.out.fr.cellThen (w1 := w1) tn hti)
          have HRA := Lib.hid (fun (w1 : World) (v1 : Value) (ys : List Int) => HFA.out.row (wr' := w1) (v1 := v1) (ys := ys) hti)
          have HRN := Lib.hid (fun (w1 : World) (v1 : Value) => HFA.out.rowN (wr' := w1) (v1 := v1) hti HNA.out (by rw [HRL.out]; exact HAP.out))
          have hu28 := Try.underlying28
          have hu37 := Try.underlying37
          generalize vs2.getD tn undef = ev at *
          go_upto_region 8 with fail
          refine wp_region_lit ?_
          iterate 8 (refine wpList_plain rfl (fun K hK => ?_); go_simp; refine hK _ _ ?_; clear hK K)
          refine Kd.R_append (Kd.int .i64) (w0 := w) w.heap.size rfl (.tmp 37) (.tmp 39) 37 3 (.int .i64 0) 8 rfl Try.underlying37 infoS3 rfl (by decide) (by decide) ev (rw_.getD tn []) (bn : Int) [.int .i64 bn] (fun _ => True) (fun _ => False) rfl rfl ?aP (fun _ hk => hk.elim) ?aF ?aO ?aB ?aS ?aL ?_
          case aP => exact rfl
          case aB => exact HFA.out.b
          case aF => exact (fun _ _ => trivial)
          case aO => exact HE.out
          case aS => exact HFA.out.b.size
          case aL => have := HRL2.out; omega
          intro v1 w2 hR1 hb1 hg1 hat1
          obtain ⟨A8, c8, hv8, hc8, hC8⟩ := Kd.R_reads hR1
          clear hC8 hc8
          subst hv8
          obtain ⟨hc1, hf1⟩ := HCA.out w2 hg1
          have HF2 := Lib.hid (HRA.out w2 _ _ hR1 hg1 hat1)
          have HN2 := Lib.hid (HRN.out w2 _ hg1 hat1)
          clear hR1 hb1 hg1 hat1 hce f0
          generalize (rw_.getD tn [] ++ [(bn : Int)]).length = L8 at *
          go_wp2
          go_roundw
          case rel =>
            refine ⟨q + 1, vs2.set tn (.slice A8 L8 c8), by omega, by go_num, ?_, HN2.out.1, ?_⟩
            · rw [HFS.out]
              exact HF2.out
            · have := HN2.out.2
              rwa [HRL.out] at this
          case measure => simp [intOf]; omega
        · have hqe : q = nl.length := by omega
          subst hqe
          rw [List.take_length] at HF
          clear HN HAP
          go_wp2
          go_roundw
          case rel =>
            refine ⟨m + 1, vs2, by omega, by go_num, ?_⟩
            rw [HGS.out]
            exact HF.out
          case measure => simp [intOf]; omega
    · have hme : m = ord.length := by omega
      subst hme
      rw [List.take_length] at HF hrl
      have HRT := Lib.hid (show ∀ t : Nat, ((ahGo bs ord (List.replicate bs.length [])).getD t []).length ≤ 5000 from fun t => by
        rw [ahGo_get bs t ord _ (fun x hx u hu => by rw [List.length_replicate]; exact HNX.out x hx u hu)]
        have h1 := ahRow_len bs t ord
        have h2 : ((List.replicate bs.length ([] : List Int)).getD t []).length = 0 := by
          rw [List.getD_eq_getElem?_getD, List.getElem?_replicate]
          split <;> rfl
        rw [List.length_append, h2]
        omega)
      generalize ahGo bs ord (List.replicate bs.length []) = rows at *
      go_wp2_with fail
      go_loopw [46] (fun j wr => ∃ (q : Nat), q ≤ bs.length ∧ j = .int .i64 q ∧ AFr w #[.slice A0 l0.length c0, .int .i64 a1, .slice A2 bs.length c2] vs (sortTo rows q) (.slice A5 ord.length c5) ord wr) (fun j _ => bs.length - (intOf j).toNat)
      case atStart => exact ⟨0, Nat.zero_le _, rfl, by rw [sortTo_zero]; exact HF.out⟩
      case round =>
        clear HF
        obtain ⟨q, hq, rfl, hF⟩ := hrel
        have HF := Lib.hid hF
        clear hF
        by_cases hlt2 : q < bs.length
        · have hqr : q < rows.length := by omega
          have hqi : q < (sortTo rows q).length := by rw [sortTo_len]; exact hqr
          have hce := (HF.out.fr.cellAt q hqi).1
          have HE := Lib.hid (HF.out.fr.row q hqi)
          rw [sortTo_get rows q hqr] at HE
          have HTN := Lib.hid (fun (w1 : World) (ys : List Int) => HF.out.turn (wr' := w1) (ys := ys) hqi)
          have HST := Lib.hid (sortTo_step rows q hqr)
          have HRL := HRT.out q
          have hu28 := Try.underlying28
          generalize vs.getD q undef = ev at *
          go_wp2_with (go_at_call 109; go_loud (refine (sort_any ev (rows.getD q []) _ w.heap.size HE.out (by omega)).mono ?_; rintro e w2 ⟨rfl, hR1, hg1⟩; have HF2 := Lib.hid (HTN.out w2 _ hR1 hg1); clear hR1 hg1 hce))
          go_roundw
          case rel =>
            refine ⟨q + 1, by omega, by go_num, ?_⟩
            rw [HST.out]
            exact HF2.out
          case measure => simp [intOf]; omega
        · have hqe : q = rows.length := by omega
          subst hqe
          rw [sortTo_all, ← HAS.out] at HF
          have hrl2 : (ahS bs).length = bs.length := by rw [HAS.out, List.length_map]; exact hrl
          have HS := Lib.hid (HF.out.fr.toS (by omega) (by omega))
          rw [hrl2] at HS
          go_wp2
          go_ret
          exact ⟨_, rfl, HS.out, HF.out.b⟩
end Go.Proofs.Ytjmeignhhheckaa.H
namespace Go.Proofs.Ytjmeignhhheckaa.D
def DI (nb m : Nat) (ord num : List Int) (frm : List (List Int)) (fuel : Nat) (dom : List Int) : Prop :=
  ∃ (n : Nat) (L : List Nat) (D T : Nat → Nat), Phase T (pre ord num frm) n (fun i => i ∈ L) D ∧ Rel nb m ord dom (n + 1) D ∧ L.Nodup ∧ D 0 = 0 ∧ n < m ∧ (m - (n + 1)) * (m + 2) + (n + 1 - L.length) < fuel
def DEnd (nb m : Nat) (ord num : List Int) (frm : List (List Int)) (dom : List Int) : Prop :=
  ∃ D' : Nat → Nat, Rel nb m ord dom m D' ∧ D' 0 = 0 ∧ Tree D' m ∧ ∀ b, 0 < b → b < m → Common D' (pre ord num frm b) (D' b)
theorem DI.step {nb m ord num frm} (h : Env nb m ord num frm) {f : Nat} (hf : 2 * m ≤ f) {fuel : Nat} {dom : List Int} (hd : DI nb m ord num frm (fuel + 1) dom) :
    (sweepB num frm f dom (ord.drop 1) = none ∧ DEnd nb m ord num frm dom) ∨ (∃ dom', sweepB num frm f dom (ord.drop 1) = some dom' ∧ DI nb m ord num frm fuel dom') := by
  obtain ⟨n, L, D, T, hp, hr, hL, hD0, hn, hfu⟩ := hd
  have hDl : ∀ i, i < n + 1 → D i < n + 1 := fun i hi => by
    by_cases h0 : i = 0
    · subst h0; omega
    · have := hp.dlt (by omega : 0 < i) (by omega); omega
  have hLn : L.length ≤ n := by
    have : (0 :: L).length ≤ n + 1 := nodup_len (n + 1) _ (List.nodup_cons.2 ⟨fun h0 => by have := (hp.fl 0 h0).1; omega, hL⟩) (fun i hi => by
      rcases List.mem_cons.1 hi with rfl | hi
      · omega
      · have := hp.fl i hi; omega)
    simp only [List.length_cons] at this
    omega
  have hev : ∀ b, b < m → (evalB num dom f (frm.getD (ord.getD b 0).toNat []) (-1) = -1 ∧ ((pre ord num frm b).filter fun p => decide (p < n + 1)) = [] ∨
      ∃ e, e < n + 1 ∧ evalB num dom f (frm.getD (ord.getD b 0).toNat []) (-1) = ord.getD e 0 ∧ Common D ((pre ord num frm b).filter fun p => decide (p < n + 1)) e) := fun b hb => by
    have := evalB_eq h hr (by omega) hp.dtree hDl hf (frm.getD (ord.getD b 0).toNat []) (h.frs b hb) [] (-1) (.inl ⟨rfl, rfl⟩)
    simpa [pre] using this
  have hle : ∀ b, ((pre ord num frm b).filter fun p => decide (p < n + 1)) = ((pre ord num frm b).filter fun p => decide (p ≤ n)) := fun b => by
    apply List.filter_congr
    intro x _
    exact decide_eq_decide.2 (by omega)
  have hnon : ∀ b, 0 < b → b < m → b ≤ n + 1 → ∃ p, p ∈ pre ord num frm b ∧ p ≤ n ∧ p < b := fun b h0 hb hbn => by
    obtain ⟨p, hp1, j, hj, rfl⟩ := h.non b h0 hb
    refine ⟨j, ?_, by omega, hj⟩
    unfold pre
    rw [List.mem_map]
    exact ⟨_, hp1, by rw [h.nms j (by omega)]; omega⟩
  have hyes : ∀ b, 0 < b → b < m → b ≤ n + 1 → ∃ e, e ≤ n ∧ evalB num dom f (frm.getD (ord.getD b 0).toNat []) (-1) = ord.getD e 0 ∧ Common D ((pre ord num frm b).filter fun p => decide (p ≤ n)) e := fun b h0 hb hbn => by
    rcases hev b hb with ⟨_, h2⟩ | ⟨e, h1, h2, h3⟩
    · obtain ⟨p, hp1, hp2, _⟩ := hnon b h0 hb hbn
      have : p ∈ (pre ord num frm b).filter fun p => decide (p < n + 1) := by
        rw [List.mem_filter]; exact ⟨hp1, by simp; omega⟩
      rw [h2] at this; cases this
    · rw [hle] at h3
      exact ⟨e, by omega, h2, h3⟩
  have hst : ∀ b, 0 < b → b ≤ n → evalB num dom f (frm.getD (ord.getD b 0).toNat []) (-1) = dom.getD (ord.getD b 0).toNat 0 → Common D ((pre ord num frm b).filter fun p => decide (p ≤ n)) (D b) := fun b h0 hb he => by
    obtain ⟨e, h1, h2, h3⟩ := hyes b h0 (by omega) (by omega)
    rw [hr.yes b (by omega), h2] at he
    have := h.inj (by omega) (by have := hDl b (by omega); omega) he
    rw [← this]; exact h3
  rcases sweep_spec num frm f dom ord (m - 1) 1 (by rw [h.len]; have := h.m0; omega) with ⟨h1, h2⟩ | ⟨b, h1, h2, h3, h4, h5⟩
  · refine .inl ⟨h1, ?_⟩
    have hnm : n + 1 = m := by
      refine Classical.byContradiction fun hne => ?_
      obtain ⟨e, he1, he2, _⟩ := hyes (n + 1) (by omega) (by omega) (Nat.le_refl _)
      have := h2 (n + 1) (by omega) (by rw [h.len]; omega)
      have hrg := h.rng e (by omega)
      have hrn := h.rng (n + 1) (by omega)
      rw [he2, hr.no _ (by omega) (fun i hi e => by have := h.injN (by omega) (by omega) e; omega)] at this
      omega
    subst hnm
    refine ⟨D, hr, hD0, hp.dtree, fun b h0 hb => ?_⟩
    have := hst b h0 (by omega) (h2 b (by omega) (by rw [h.len]; omega))
    have hall : ((pre ord num frm b).filter fun p => decide (p ≤ n)) = pre ord num frm b := by
      rw [List.filter_eq_self]
      intro p hp1
      unfold pre at hp1
      rw [List.mem_map] at hp1
      obtain ⟨q, hq, rfl⟩ := hp1
      obtain ⟨j, hj, rfl⟩ := h.frs b hb q hq
      rw [h.nms j hj]
      simp; omega
    rwa [hall] at this
  · refine .inr ⟨_, h5, ?_⟩
    rw [h.len] at h2
    by_cases hbn : b ≤ n
    · obtain ⟨e, he1, he2, he3⟩ := hyes b (by omega) h2 (by omega)
      have hne : e ≠ D b := fun e2 => by rw [he2, hr.yes b (by omega), e2] at h4; exact h4 rfl
      obtain ⟨hnf, hph⟩ := hp.look (by omega) hbn he1 he3 hne
      have hset := rel_set h hr (b := b) (k2 := n + 1) (e := e) h2 (by omega) (.inl rfl) (by omega)
      rw [← he2] at hset
      have hF : (fun i => i ∈ L ∨ i = b) = (fun i => i ∈ b :: L) := by
        funext i
        simp only [List.mem_cons, eq_iff_iff]
        constructor
        · rintro (h | h)
          · exact .inr h
          · exact .inl h
        · rintro (h | h)
          · exact .inr h
          · exact .inl h
      rw [hF] at hph
      refine ⟨n, b :: L, _, T, hph, hset, List.nodup_cons.2 ⟨hnf, hL⟩, ?_, hn, ?_⟩
      · have : (0 : Nat) ≠ b := by omega
        simp only [this, if_false]; exact hD0
      · simp only [List.length_cons]
        omega
    · have hbe : b = n + 1 := by
        refine Classical.byContradiction fun hne => ?_
        obtain ⟨e, he1, he2, _⟩ := hyes (n + 1) (by omega) (by omega) (Nat.le_refl _)
        have := h3 (n + 1) (by omega) (by omega)
        have hrg := h.rng e (by omega)
        have hrn := h.rng (n + 1) (by omega)
        rw [he2, hr.no _ (by omega) (fun i hi e => by have := h.injN (by omega) (by omega) e; omega)] at this
        omega
      subst hbe
      obtain ⟨e, he1, he2, he3⟩ := hyes (n + 1) (by omega) h2 (Nat.le_refl _)
      have hset := rel_set h hr (b := n + 1) (k2 := n + 2) (e := e) h2 (by omega) (.inr ⟨rfl, rfl⟩) (by omega)
      rw [← he2] at hset
      obtain ⟨q, hq1, hq2, _⟩ := hnon (n + 1) (by omega) h2 (Nat.le_refl _)
      have hph := hp.next (fun b h0 hb => hst b h0 hb (h3 b (by omega) (by omega))) he1 he3 ⟨q, hq1, hq2⟩ hD0
      have hF : (fun _ : Nat => False) = (fun i => i ∈ ([] : List Nat)) := by
        funext i; simp
      rw [hF] at hph
      refine ⟨n + 1, [], _, _, hph, hset, List.nodup_nil, ?_, h2, ?_⟩
      · have : (0 : Nat) ≠ n + 1 := by omega
        simp only [this, if_false]; exact hD0
      · simp only [List.length_nil]
        have hmul : (m - (n + 1 + 1) + 1) * (m + 2) = (m - (n + 1 + 1)) * (m + 2) + (m + 2) := by rw [Nat.add_mul]; omega
        have : m - (n + 1) = m - (n + 1 + 1) + 1 := by omega
        rw [this] at hfu
        omega
structure Good (nb m : Nat) (ord dom : List Int) : Prop where
  len : dom.length = nb
  up : ∀ i, i < m → 0 ≤ dom.getD (ord.getD i 0).toNat 0 → ∃ j, j < m ∧ dom.getD (ord.getD i 0).toNat 0 = ord.getD j 0 ∧ (0 < i → j < i) ∧ 0 ≤ dom.getD (ord.getD j 0).toNat 0
theorem DI.good {nb m ord num frm} (h : Env nb m ord num frm) {fuel : Nat} {dom : List Int} (hd : DI nb m ord num frm fuel dom) : Good nb m ord dom := by
  obtain ⟨n, L, D, T, hp, hr, hL, hD0, hn, hfu⟩ := hd
  have hDl : ∀ i, i < n + 1 → D i < n + 1 := fun i hi => by
    by_cases h0 : i = 0
    · subst h0; omega
    · have := hp.dlt (by omega : 0 < i) (by omega); omega
  refine ⟨hr.len, fun i hi h0 => ?_⟩
  by_cases hk : i < n + 1
  · refine ⟨D i, by have := hDl i hk; omega, hr.yes i hk, fun h1 => hp.dlt h1 (by omega), ?_⟩
    rw [hr.yes _ (hDl i hk)]
    exact (h.rng _ (by have := hDl _ (hDl i hk); omega)).1
  · exfalso
    have hrg := h.rng i hi
    have := hr.no (ord.getD i 0).toNat (by omega) (fun q hq e => by have := h.injN (by omega) hi e; omega)
    omega
theorem DI.start {nb m ord num frm} (h : Env nb m ord num frm) : DI nb m ord num frm ((m - 1) * (m + 2) + 2) ((List.replicate nb (-1)).set 0 0) := by
  have h0 := h.rng 0 h.m0
  have hz := h.zero
  refine ⟨0, [], fun _ => 0, fun _ => 0, ?_, ⟨by simp, fun i hi => ?_, fun b hb hn => ?_⟩, List.nodup_nil, rfl, h.m0, by simp⟩
  · have := Phase.start (pre ord num frm) (fun _ => 0) rfl
    have hF : (fun _ : Nat => False) = (fun i => i ∈ ([] : List Nat)) := by
      funext i; simp
    rwa [hF] at this
  · obtain rfl : i = 0 := by omega
    rw [hz]
    rw [hz] at h0
    have : 0 < nb := by omega
    simp [this]
  · have := hn 0 (by omega)
    rw [hz] at this
    have hne : (0 : Nat) ≠ b := this
    rw [List.getD_eq_getElem?_getD, List.getElem?_set_ne hne, List.getElem?_replicate, if_pos hb]
    rfl
end Go.Proofs.Ytjmeignhhheckaa.D
namespace Go.Proofs.Ytjmeignhhheckaa.H
open Go.RowKit Go.Maps Go.Proofs.YtjmeignhhheckaaW.PrintWords Go.Proofs.YtjmeignhhheckaaW.PrintLast Go.Proofs.Ytjmeignhhheckaa.Q Go.Proofs.Ytjmeignhhheckaa.D
set_option maxRecDepth 100000
def IB (w : World) (g : Nat) (xs : List Int) : Prop := w.heap[g]? = some (.cells (xs.map (Value.int .i64)).toArray 3 (0, 0))
theorem IB.cell {w : World} {g : Nat} {xs : List Int} (h : IB w g xs) (i : Nat) (hi : i < xs.length) : w.cell? ⟨g, i, none⟩ = some (.int .i64 (xs.getD i 0)) := by
  rw [blk_cell h]
  simp [hi]
theorem IB.below {w w1 : World} {g : Nat} {xs : List Int} (h : IB w g xs) (hb : Below w.heap.size w w1) : IB w1 g xs := blk_below h hb
theorem IB.set {w : World} {g : Nat} {xs : List Int} (h : IB w g xs) (i : Nat) (x : Int) : IB (w.setCell ⟨g, i, none⟩ (.int .i64 x)) g (xs.set i x) := by
  unfold IB
  rw [List.map_set]
  exact blk_put h i _ (by simp)
/-- flow.Dom's memory: two rows of numbers, each behind a variable that the closure captures -/
structure DW (w0 : World) (gN gD nv dv n : Nat) (num dom : List Int) (w : World) : Prop where
  b : Below w0.heap.size w0 w
  nx : w.heap[gN]? = some (.cells #[.slice (some ⟨nv, 0, none⟩) n n] 37 (0, 0))
  dx : w.heap[gD]? = some (.cells #[.slice (some ⟨dv, 0, none⟩) n n] 37 (0, 0))
  nr : IB w nv num
  dr : IB w dv dom
  ln : num.length = n
  ld : dom.length = n
theorem DW.below {w0 : World} {gN gD nv dv n : Nat} {num dom : List Int} {w w1 : World} (h : DW w0 gN gD nv dv n num dom w) (hb : Below w.heap.size w w1) : DW w0 gN gD nv dv n num dom w1 :=
  ⟨below_step h.b hb, blk_below h.nx hb, blk_below h.dx hb, h.nr.below hb, h.dr.below hb, h.ln, h.ld⟩
theorem DW.drew {w0 : World} {gN gD nv dv n : Nat} {num dom : List Int} {w : World} (h : DW w0 gN gD nv dv n num dom w) : DW w0 gN gD nv dv n num dom w.drew := h.below (pw_below_drewN (Below.refl _ w) 1)
set_option maxHeartbeats 4000000 in
theorem meet_any (w0 : World) (gN gD nv dv n m : Nat) (num dom : List Int) (ord : List Int) (frm : List (List Int)) (hE : Env n m ord num frm) (hG : D.Good n m ord dom) (hn : n ≤ 5000) (hm : m ≤ 5000) (f i0 j0 : Nat) (hi0 : i0 < m) (hj0 : j0 < m) (hf : i0 + j0 ≤ f)
    (hdi : 0 ≤ dom.getD (ord.getD i0 0).toNat 0) (hdj : 0 ≤ dom.getD (ord.getD j0 0).toNat 0) (w : World) (hW : DW w0 gN gD nv dv n num dom w) :
    Calls Try.prog 87 #[.int .i64 (ord.getD i0 0), .int .i64 (ord.getD j0 0), .pointer (some ⟨gN, 0, none⟩), .pointer (some ⟨gD, 0, none⟩)] w fun e w' => e = .returned (.int .i64 (meetB num dom f (ord.getD i0 0) (ord.getD j0 0))) ∧ Below w.heap.size w w' := by
  have HE := Lib.hid hE
  have HG := Lib.hid hG
  have HW := Lib.hid hW
  have HDI := Lib.hid hdi
  have HDJ := Lib.hid hdj
  have HB := Lib.hid (Below.refl w.heap.size w)
  clear hE hG hW hdi hdj
  have hres : meetB num dom f (ord.getD i0 0) (ord.getD j0 0) = meetB num dom f (ord.getD i0 0) (ord.getD j0 0) := rfl
  generalize hr : meetB num dom f (ord.getD i0 0) (ord.getD j0 0) = res at *
  have HR := Lib.hid hr
  clear hr hres
  go_enter Try.func87, Try.ntmps87
  go_wp2_with fail
  go_loopw [0, 1] (fun a b wr => ∃ (i j f' : Nat), i < m ∧ j < m ∧ a = .int .i64 (ord.getD i 0) ∧ b = .int .i64 (ord.getD j 0) ∧ i + j ≤ f' ∧ meetB num dom f' (ord.getD i 0) (ord.getD j 0) = res ∧ 0 ≤ dom.getD (ord.getD i 0).toNat 0 ∧ 0 ≤ dom.getD (ord.getD j 0).toNat 0 ∧ Below w.heap.size w wr) (fun a b _ => (num.getD (intOf a).toNat 0).toNat + (num.getD (intOf b).toNat 0).toNat)
  case atStart => exact ⟨i0, j0, f, hi0, hj0, rfl, rfl, hf, HR.out, HDI.out, HDJ.out, HB.out⟩
  case round =>
    clear HR HDI HDJ HB
    obtain ⟨i, j, f1, hi, hj, rfl, rfl, hf1, hr, hdi, hdj, hb⟩ := hrel
    have HR := Lib.hid hr
    have HDI := Lib.hid hdi
    have HDJ := Lib.hid hdj
    have HB := Lib.hid hb
    clear hr hdi hdj hb
    have HNUM := Lib.hid (show ∀ i, i < m → ∃ k : Nat, k < n ∧ ord.getD i 0 = (k : Int) ∧ num.getD k 0 = (i : Int) from fun i hi => by
      have h1 := HE.out.rng i hi
      have h2 := HE.out.nms i hi
      exact ⟨(ord.getD i 0).toNat, by omega, by omega, h2⟩)
    by_cases he : ord.getD i 0 = ord.getD j 0
    · have hra : ord.getD i 0 = res := by
        have := HR.out
        cases f1 with
        | zero => exact this
        | succ f1 => rwa [meetB, if_pos he] at this
      rw [← he, hra]
      go_wp2
      go_ret
      exact ⟨rfl, HB.out⟩
    · have hij : i ≠ j := fun e => he (by rw [e])
      have HN := Lib.hid he
      clear he
      obtain ⟨kj, hkj, hoj, hnj⟩ := HNUM.out j hj
      obtain ⟨k0, hki, hoi, hni⟩ := HNUM.out i hi
      have HMS := Lib.hid (And.intro hni hnj)
      have HNij := Lib.hid (show ((k0 : Int) != (kj : Int)) = true from by
        have := HN.out
        rw [hoi, hoj] at this
        simpa using this)
      have hneb := HNij.out
      rw [hoi, hoj]
      go_wp2_with fail
      clear hneb hnj hni
      have hoi2 := hoi
      rw [← hoi]
      go_loopw [0] (fun a wr => ∃ (i' f' : Nat), i' < m ∧ a = .int .i64 (ord.getD i' 0) ∧ i' + j ≤ f' ∧ meetB num dom f' (ord.getD i' 0) (ord.getD j 0) = res ∧ 0 ≤ dom.getD (ord.getD i' 0).toNat 0 ∧ (i' = i ∨ i' < i) ∧ Below w.heap.size w wr) (fun a _ => (num.getD (intOf a).toNat 0).toNat)
      case atStart => exact ⟨i, f1, hi, rfl, hf1, HR.out, HDI.out, .inl rfl, HB.out⟩
      case round =>
        clear HR HDI HB hoi2 hoi HNij HN hki
        obtain ⟨i', f', hi', rfl, hf', hr', hdi', hii, hb⟩ := hrel
        have HR := Lib.hid hr'
        have HDI := Lib.hid hdi'
        have HB := Lib.hid hb
        have HII := Lib.hid hii
        clear hr' hdi' hb hii
        obtain ⟨ki, hki, hoi, hni⟩ := HNUM.out i' hi'
        have HW1 := Lib.hid (HW.out.below (by exact HB.out))
        have g0 := (blk_cell HW1.out.nx 0)
        have g1 := (blk_cell HW1.out.dx 0)
        have c0 := HW1.out.nr.cell ki (by rw [HW1.out.ln]; exact hki)
        have c1 := HW1.out.nr.cell kj (by rw [HW1.out.ln]; exact hkj)
        have d0 := HW1.out.dr.cell ki (by rw [HW1.out.ld]; exact hki)
        rw [hni] at c0
        rw [HMS.out.2] at c1
        rw [hoi]
        by_cases hgt : j < i'
        · have hg : (decide ((j : Int) < (i' : Int))) = true := by simpa using hgt
          go_wp2_with fail
          go_region
          go_wp2
          have hup := HG.out.up i' hi' HDI.out
          rw [hoi, Int.toNat_natCast] at hup
          obtain ⟨i2, hi2, ho2, hlt2, hd2⟩ := hup
          have hlt2 := hlt2 (by omega)
          obtain ⟨k2, hk2, hok2, hnk2⟩ := HNUM.out i2 hi2
          rw [← List.getD_eq_getElem?_getD, ho2]
          obtain ⟨f2, rfl⟩ : ∃ f2, f' = f2 + 1 := ⟨f' - 1, by omega⟩
          refine ⟨⟨i2, f2, hi2, rfl, by omega, ?_, hd2, .inr (by have := HII.out; omega), HB.out.drew⟩, ?_⟩
          · have h := HR.out
            have hne : ¬ (ord.getD i' 0 = ord.getD j 0) := fun e => by
              rw [hoi, hoj] at e
              have e := Int.ofNat.inj e
              rw [e, HMS.out.2] at hni
              omega
            rw [meetB, if_neg hne, hoi, hoj, Int.toNat_natCast, Int.toNat_natCast, hni, HMS.out.2, if_pos (by omega), ho2] at h
            rw [hoj]
            exact h
          · simp only [intOf, hok2, Int.toNat_natCast, hnk2, hni]
            omega
        · have hg : (decide ((j : Int) < (i' : Int))) = false := by simpa using hgt
          go_wp2_with fail
          go_region
          go_wp2_with fail
          have HB2 := Lib.hid HB.out.drew
          clear HB HW1 g0 g1 c0 c1 d0 hg
          have HOJ := Lib.hid hoj
          rw [← hoj]
          clear hoj
          go_loopw [1] (fun b wr => ∃ (j' f2 : Nat), j' < m ∧ b = .int .i64 (ord.getD j' 0) ∧ i' + j' ≤ f2 ∧ meetB num dom f2 (ord.getD i' 0) (ord.getD j' 0) = res ∧ 0 ≤ dom.getD (ord.getD j' 0).toNat 0 ∧ (j' = j ∨ j' < j) ∧ Below w.heap.size w wr) (fun b _ => (num.getD (intOf b).toNat 0).toNat)
          case atStart => exact ⟨j, f', hj, rfl, hf', HR.out, HDJ.out, .inl rfl, HB2.out⟩
          case round =>
            clear HR HDJ HB2
            obtain ⟨j', f2, hj', rfl, hf2, hr2, hdj', hjj, hb⟩ := hrel
            have HR := Lib.hid hr2
            have HDJ := Lib.hid hdj'
            have HB := Lib.hid hb
            have HJJ := Lib.hid hjj
            clear hr2 hdj' hb hjj
            obtain ⟨kb, hkb, hob, hnb⟩ := HNUM.out j' hj'
            have HW1 := Lib.hid (HW.out.below (by exact HB.out))
            have g0 := (blk_cell HW1.out.nx 0)
            have g1 := (blk_cell HW1.out.dx 0)
            have c0 := HW1.out.nr.cell ki (by rw [HW1.out.ln]; exact hki)
            have c1 := HW1.out.nr.cell kb (by rw [HW1.out.ln]; exact hkb)
            have d0 := HW1.out.dr.cell kb (by rw [HW1.out.ld]; exact hkb)
            rw [hni] at c0
            rw [hnb] at c1
            rw [hob]
            by_cases hgt2 : i' < j'
            · have hg : (decide ((i' : Int) < (j' : Int))) = true := by simpa using hgt2
              go_wp2_with fail
              go_region
              go_wp2
              have hup := HG.out.up j' hj' HDJ.out
              rw [hob, Int.toNat_natCast] at hup
              obtain ⟨i2, hi2, ho2, hlt2, hd2⟩ := hup
              have hlt2 := hlt2 (by omega)
              obtain ⟨k2, hk2, hok2, hnk2⟩ := HNUM.out i2 hi2
              rw [← List.getD_eq_getElem?_getD, ho2]
              obtain ⟨f3, rfl⟩ : ∃ f3, f2 = f3 + 1 := ⟨f2 - 1, by omega⟩
              refine ⟨⟨i2, f3, hi2, rfl, by omega, ?_, hd2, .inr (by have := HJJ.out; omega), HB.out.drew⟩, ?_⟩
              · have h := HR.out
                have hne : ¬ (ord.getD i' 0 = ord.getD j' 0) := fun e => by
                  rw [hoi, hob] at e
                  have e := Int.ofNat.inj e
                  rw [e, hnb] at hni
                  omega
                rw [meetB, if_neg hne, hoi, hob, Int.toNat_natCast, Int.toNat_natCast, hni, hnb, if_neg (by omega), ho2] at h
                rw [hoi]
                exact h
              · simp only [intOf, hok2, Int.toNat_natCast, hnk2, hnb]
                omega
            · have hg : (decide ((i' : Int) < (j' : Int))) = false := by simpa using hgt2
              go_wp2_with fail
              go_region
              go_wp2
              refine ⟨⟨i', j', f2, hi', hj', by rw [hoi], by rw [hob], hf2, HR.out, HDI.out, HDJ.out, HB.out.drew⟩, ?_⟩
              simp only [intOf, Int.toNat_natCast, hni, hnb, HMS.out.1, HMS.out.2]
              have h1 := HII.out
              have h2 := HJJ.out
              omega
end Go.Proofs.Ytjmeignhhheckaa.H
namespace Go.Proofs.Ytjmeignhhheckaa.H
open Go.RowKit Go.Maps Go.Proofs.YtjmeignhhheckaaW.PrintWords Go.Proofs.YtjmeignhhheckaaW.PrintLast Go.Proofs.Ytjmeignhhheckaa.Q Go.Proofs.Ytjmeignhhheckaa.D
set_option maxRecDepth 100000
theorem least {p : Nat → Prop} : ∀ n, p n → ∃ k, p k ∧ ∀ j, p j → k ≤ j := by
  intro n
  induction n using Nat.strongRecOn with
  | _ n ih =>
    intro h
    by_cases hx : ∃ j, j < n ∧ p j
    · obtain ⟨j, hj, hp⟩ := hx
      exact ih j hj hp
    · exact ⟨n, h, fun j hj => Nat.le_of_not_lt fun hl => hx ⟨j, hl, hj⟩⟩
theorem wp_weaken {P : Program} {c : Code} {Q Q' : Exit → Act → World → Prop} {a : Act} {w : World} (h : c.wp P Q a w) (hq : ∀ e a w, Q e a w → Q' e a w) : c.wp P Q' a w := by
  intro b k cs
  obtain ⟨e, a', w', h1, h2⟩ := h b k cs
  exact ⟨e, a', w', hq _ _ _ h1, h2⟩
open Classical in
/-- jumps back to one label, told by a number that falls; the code behind the label is walked once -/
theorem wp_scope_ghost {P : Program} {c rest : Code} {Q : Exit → Act → World → Prop} {a : Act} {w : World} (l : Nat) (J : Nat → Act → World → Prop) (hf : findLabel c l = some rest)
    (pass : ∀ k a w, J k a w → rest.wp P (Exit.jump l (fun a' w' => ∃ k', k' < k ∧ J k' a' w') Q) a w)
    (first : (∀ k a w, J k a w → rest.wp P (Exit.jump l (fun a' w' => ∃ k', J k' a' w') Q) a w) → c.wp P (Exit.jump l (fun a' w' => ∃ k', J k' a' w') Q) a w) : (Code.scope c).wp P Q a w := by
  refine wp_scope_jumps l (fun a w => ∃ k, J k a w) (fun a w => if h : ∃ k, J k a w ∧ ∀ j, J j a w → k ≤ j then h.choose else 0) hf ?_ ?_
  · refine first fun k a w hJ => wp_weaken (pass k a w hJ) fun e a' w' hq => ?_
    cases e with
    | goto l' => exact ⟨hq.1, by obtain ⟨k', _, h⟩ := hq.2; exact ⟨k', h⟩⟩
    | _ => exact hq
  · rintro a w ⟨n, hn⟩
    have hx := least (p := fun k => J k a w) n hn
    refine wp_weaken (pass hx.choose a w hx.choose_spec.1) fun e a' w' hq => ?_
    cases e with
    | goto l' =>
      obtain ⟨h1, k', h2, h3⟩ := hq
      refine ⟨h1, ⟨k', h3⟩, ?_⟩
      have hy := least (p := fun k => J k a' w') k' h3
      rw [dif_pos hx, dif_pos hy]
      exact Nat.lt_of_le_of_lt (hy.choose_spec.2 k' h3) h2
    | _ => exact hq
theorem wp_skip_seq {P : Program} {c : Code} {Q : Exit → Act → World → Prop} {a : Act} {w : World} (h : c.wp P Q a w) : (Code.skip.seq c).wp P Q a w := wp_seq (wp_skip h)
theorem wp_scope_ghost2 {P : Program} {c rest : Code} {Q : Exit → Act → World → Prop} {a : Act} {w : World} (l : Nat) (J : Nat → Act → World → Prop) (hf : findLabel c l = some (Code.skip.seq rest))
    (pass : ∀ k a w, J k a w → rest.wp P (Exit.jump l (fun a' w' => ∃ k', k' < k ∧ J k' a' w') Q) a w)
    (first : (∀ k a w, J k a w → rest.wp P (Exit.jump l (fun a' w' => ∃ k', J k' a' w') Q) a w) → c.wp P (Exit.jump l (fun a' w' => ∃ k', J k' a' w') Q) a w) : (Code.scope c).wp P Q a w := by
  refine wp_scope_ghost l J hf (fun k a w h => wp_skip_seq (pass k a w h)) (fun _ => first fun k a w hJ => wp_weaken (pass k a w hJ) fun e a' w' hq => ?_)
  cases e with
  | goto l' => exact ⟨hq.1, by obtain ⟨k', _, h⟩ := hq.2; exact ⟨k', h⟩⟩
  | _ => exact hq
theorem blocks_ne {w : World} {g1 g2 t1 t2 : Nat} {C1 C2 : Array Value} (h1 : w.heap[g1]? = some (.cells C1 t1 (0, 0))) (h2 : w.heap[g2]? = some (.cells C2 t2 (0, 0))) (ht : t1 ≠ t2) : g1 ≠ g2 := by
  intro e
  subst e
  rw [h1] at h2
  have h3 := Option.some.inj h2
  injection h3 with _ e3 _
  exact ht e3
theorem fcheck_calls {A0 : Option Addr} {c0 : Nat} {l0 : List Bool} {a1 : Int} {A2 : Option Addr} {c2 : Nat} {l2 : List S36} {w : World} (h0 : Kd.C Kd.bool w A0 l0.length l0) (hc0 : l0.length ≤ c0) (h2 : Kd.C k36 w A2 l2.length l2) (hc2 : l2.length ≤ c2) (hs : smallG l2) :
    Calls Try.prog 84 #[.agg #[.slice A0 l0.length c0, .int .i64 a1, .slice A2 l2.length c2]] w fun e w' => e = .returned (.int .i64 (gE l0 a1 l2)) ∧ Below w.heap.size w w' :=
  flow_check.calls (fun k_ => k_ < w.heap.size) _ _ l0 a1 (fun k_ => k_ < w.heap.size) _ _ l2 _ _ (Kd.V_mk hc0 (Kd.C_F Kd.heap_bool h0)) (Kd.V_mk hc2 (Kd.C_F k36_heap h2)) (check_f l0 a1 l2 hs)
structure DF (w : World) (G : Array Value) (gN gD nv dv n : Nat) (num dom : List Int) (ov : Value) (ord : List Int) (wr : World) : Prop where
  dw : DW w gN gD nv dv n num dom wr
  c0 : wr.heap[w.heap.size]? = some (.cells G 25 (0, 0))
  od : RI wr w.heap.size ov ord
  on : ∀ k, ov.ownBlock = some k → k ≠ nv ∧ k ≠ dv
  hn : w.heap.size < nv
  hd : w.heap.size < dv
  nd : nv ≠ dv
section
variable {w wr wr' : World} {G : Array Value} {gN gD nv dv n : Nat} {num dom ord : List Int} {ov : Value}
theorem DF.below (h : DF w G gN gD nv dv n num dom ov ord wr) (hb : Below wr.heap.size wr wr') : DF w G gN gD nv dv n num dom ov ord wr' :=
  ⟨h.dw.below hb, blk_below h.c0 hb, h.od.below hb, h.on, h.hn, h.hd, h.nd⟩
theorem DF.drew (h : DF w G gN gD nv dv n num dom ov ord wr) : DF w G gN gD nv dv n num dom ov ord wr.drew := h.below (pw_below_drewN (Below.refl _ wr) 1)
theorem DF.setN (h : DF w G gN gD nv dv n num dom ov ord wr) (i : Nat) (x : Int) : DF w G gN gD nv dv n (num.set i x) dom ov ord (wr.setCell ⟨nv, i, none⟩ (.int .i64 x)) := by
  have hg : wr.grownBy (wr.setCell ⟨nv, i, none⟩ (.int .i64 x)) (some nv) := grown_put1 i _
  refine ⟨⟨h.dw.b.grown hg h.dw.b.size (fun k hk => by cases hk; exact Nat.le_of_lt h.hn), blk_grown h.dw.nx hg (fun e => blocks_ne h.dw.nx h.dw.nr (by decide) (Option.some.inj e)), blk_grown h.dw.dx hg (fun e => blocks_ne h.dw.dx h.dw.nr (by decide) (Option.some.inj e)), h.dw.nr.set i x, ?_, by rw [List.length_set]; exact h.dw.ln, h.dw.ld⟩,
    blk_grown h.c0 hg (fun e => blocks_ne h.c0 h.dw.nr (by decide) (Option.some.inj e)), h.od.apart hg (fun k hk e => (h.on k hk).1 (Option.some.inj e).symm), h.on, h.hn, h.hd, h.nd⟩
  exact blk_grown h.dw.dr hg (fun e => h.nd (Option.some.inj e).symm)
theorem DF.setD (h : DF w G gN gD nv dv n num dom ov ord wr) (i : Nat) (x : Int) : DF w G gN gD nv dv n num (dom.set i x) ov ord (wr.setCell ⟨dv, i, none⟩ (.int .i64 x)) := by
  have hg : wr.grownBy (wr.setCell ⟨dv, i, none⟩ (.int .i64 x)) (some dv) := grown_put1 i _
  refine ⟨⟨h.dw.b.grown hg h.dw.b.size (fun k hk => by cases hk; exact Nat.le_of_lt h.hd), blk_grown h.dw.nx hg (fun e => blocks_ne h.dw.nx h.dw.dr (by decide) (Option.some.inj e)), blk_grown h.dw.dx hg (fun e => blocks_ne h.dw.dx h.dw.dr (by decide) (Option.some.inj e)), ?_, h.dw.dr.set i x, h.dw.ln, by rw [List.length_set]; exact h.dw.ld⟩,
    blk_grown h.c0 hg (fun e => blocks_ne h.c0 h.dw.dr (by decide) (Option.some.inj e)), h.od.apart hg (fun k hk e => (h.on k hk).2 (Option.some.inj e).symm), h.on, h.hn, h.hd, h.nd⟩
  exact blk_grown h.dw.nr hg (fun e => h.nd (Option.some.inj e))
end
theorem R_ints {w : World} {base g : Nat} {ok : Nat → Prop} {xs : List Int} {n : Nat} (h : IB w g xs) (hn : xs.length = n) (hb : base ≤ g) (hok : ok g) (hm : n ≤ 9223372036854775807) : Kd.R (Kd.int .i64) 3 w base ok (.slice (some ⟨g, 0, none⟩) n n) xs := by
  subst hn
  refine Kd.R_of_own ?_ ?_
  · refine ⟨by simp [encs], .inr ⟨g, xs.length, (xs.map (Value.int .i64)).toArray, rfl, hb, h, Nat.le_refl _, by simpa [maxLen] using hm, by simp, ?_⟩⟩
    simp [encs]
    rw [List.take_of_length_le (by simp)]
  · intro k hk
    have : g = k := by simpa [Value.ownBlock] using hk
    subst this; exact hok
def dom0 (n m : Nat) : List Int := (List.range m).foldl (fun x i => x.set i (-1)) (List.replicate n 0)
def numG (n : Nat) (ord : List Int) (m : Nat) : List Int := (List.range m).foldl (fun x i => x.set (ord.getD i 0).toNat (i : Int)) (List.replicate n 0)
theorem dom0_step (n m : Nat) : dom0 n (m + 1) = (dom0 n m).set m (-1) := by unfold dom0; rw [List.range_succ, List.foldl_append]; rfl
theorem numG_step (n : Nat) (ord : List Int) (m : Nat) : numG n ord (m + 1) = (numG n ord m).set (ord.getD m 0).toNat (m : Int) := by unfold numG; rw [List.range_succ, List.foldl_append]; rfl
theorem dom0_len (n m : Nat) : (dom0 n m).length = n := by
  induction m with
  | zero => simp [dom0]
  | succ m ih => rw [dom0_step, List.length_set, ih]
theorem numG_len (n : Nat) (ord : List Int) (m : Nat) : (numG n ord m).length = n := by
  induction m with
  | zero => simp [numG]
  | succ m ih => rw [numG_step, List.length_set, ih]
theorem dom0_get (n m i : Nat) (h : i < n) : (dom0 n m).getD i 0 = if i < m then -1 else 0 := by
  induction m with
  | zero => simp [dom0, List.getElem?_replicate, h]
  | succ m ih =>
    rw [dom0_step]
    by_cases e : m = i
    · subst e
      have : m < (dom0 n m).length := by rw [dom0_len]; exact h
      simp [this]
    · have h2 : ((dom0 n m).set m (-1)).getD i 0 = (dom0 n m).getD i 0 := by
        rw [List.getD_eq_getElem?_getD, List.getElem?_set_ne e, ← List.getD_eq_getElem?_getD]
      rw [h2, ih]
      by_cases h3 : i < m
      · rw [if_pos h3, if_pos (by omega)]
      · rw [if_neg h3, if_neg (by omega)]
theorem dom0_all (n : Nat) : dom0 n n = List.replicate n (-1) := by
  apply List.ext_getElem (by rw [dom0_len, List.length_replicate])
  intro i h1 h2
  have h3 := dom0_get n n i (by rwa [dom0_len] at h1)
  rw [if_pos (by rwa [dom0_len] at h1)] at h3
  simpa [h1] using h3
end Go.Proofs.Ytjmeignhhheckaa.H
namespace Go.Proofs.Ytjmeignhhheckaa.H
open Go.RowKit Go.Maps Go.Proofs.YtjmeignhhheckaaW.PrintWords Go.Proofs.YtjmeignhhheckaaW.PrintLast Go.Proofs.Ytjmeignhhheckaa.Q Go.Proofs.Ytjmeignhhheckaa.D
set_option maxRecDepth 100000
def numO (bs : List S36) : List Int := numG bs.length (orderS bs) (orderS bs).length
theorem numG_get (n : Nat) (ord : List Int) (hnd : ord.Nodup) (hr : ∀ o ∈ ord, 0 ≤ o ∧ o < n) : ∀ m, m ≤ ord.length → ∀ i, i < m → (numG n ord m).getD (ord.getD i 0).toNat 0 = (i : Int) := by
  intro m
  induction m with
  | zero => intro _ i hi; omega
  | succ m ih =>
    intro hm i hi
    have hom : ord.getD m 0 ∈ ord := getD_mem (by omega)
    have hoi : ord.getD i 0 ∈ ord := getD_mem (by omega)
    have h1 := hr _ hom
    have h2 := hr _ hoi
    rw [numG_step, D.getD_set_i (by rw [numG_len]; omega)]
    by_cases e : i = m
    · subst e; rw [if_pos rfl]
    · rw [if_neg, ih (by omega) i (by omega)]
      intro h3
      have h4 : ord.getD m 0 = ord.getD i 0 := by omega
      have hm' : m < ord.length := by omega
      have hi' : i < ord.length := by omega
      rw [List.getD_eq_getElem?_getD, List.getD_eq_getElem?_getD, List.getElem?_eq_getElem hm', List.getElem?_eq_getElem hi'] at h4
      have := (List.getElem_inj hnd).1 (show ord[m] = ord[i] from h4)
      omega
theorem ahS_len (bs : List S36) : (ahS bs).length = bs.length := by
  unfold ahS
  rw [List.length_map, ahGo_len, List.length_replicate]
theorem mem_ahS (bs : List S36) (hT : okT bs) (hne : 0 < bs.length) (t : Nat) (p : Int) : p ∈ (ahS bs).getD t [] ↔ p ∈ orderS bs ∧ (t : Int) ∈ nxB bs p := by
  have O := orderS_ok bs hT hne
  have hnx : ∀ b ∈ orderS bs, ∀ u ∈ nexts (rd_T36 bs b), 0 ≤ u ∧ u < (List.replicate bs.length ([] : List Int)).length := fun b hb u hu => by
    rw [List.length_replicate]
    exact hT _ (getD_mem (d := z36) (by have := O.rng b hb; omega)) u hu
  have hg : (ahS bs).getD t [] = sortI ((ahGo bs (orderS bs) (List.replicate bs.length [])).getD t []) := by
    unfold ahS
    rw [List.getD_eq_getElem?_getD, List.getElem?_map, List.getD_eq_getElem?_getD]
    cases (ahGo bs (orderS bs) (List.replicate bs.length []))[t]? with
    | none => simp [sortI]
    | some x => rfl
  rw [hg]
  unfold sortI
  rw [List.mem_mergeSort, ahGo_get bs t _ _ hnx]
  have : (List.replicate bs.length ([] : List Int)).getD t [] = [] := by
    rw [List.getD_eq_getElem?_getD, List.getElem?_replicate]
    split <;> rfl
  rw [this, List.nil_append]
  exact mem_ahRow bs t p _ (fun b hb => (O.rng b hb).1)
theorem order_idx {ord : List Int} {p : Int} (h : p ∈ ord) : ∃ j, j < ord.length ∧ p = ord.getD j 0 := by
  obtain ⟨j, hj⟩ := List.getElem?_of_mem h
  exact ⟨j, (List.getElem?_eq_some_iff.1 hj).1, by rw [List.getD_eq_getElem?_getD, hj]; rfl⟩
theorem env_of (bs : List S36) (hT : okT bs) (hne : 0 < bs.length) : Env bs.length (orderS bs).length (orderS bs) (numO bs) (ahS bs) := by
  have O := orderS_ok bs hT hne
  refine ⟨rfl, O.ne, O.zero, fun i hi => O.rng _ (getD_mem hi), fun i hi => numG_get _ _ O.nd O.rng _ (Nat.le_refl _) i hi, fun i hi p hp => ?_, fun i h0 hi => ?_⟩
  · have := (mem_ahS bs hT hne _ p).1 hp
    exact order_idx this.1
  · obtain ⟨j, hj, hm⟩ := O.par i h0 hi
    have hr := O.rng _ (getD_mem (d := 0) hi)
    refine ⟨_, (mem_ahS bs hT hne _ _).2 ⟨getD_mem (d := 0) (by omega : j < (orderS bs).length), ?_⟩, j, hj, rfl⟩
    rw [Int.toNat_of_nonneg hr.1]
    exact hm
/-- what flow.Dom ends with, but for block 0 -/
def domR (bs : List S36) : List Int := (domGo (numO bs) (ahS bs) (2 * (orderS bs).length) ((orderS bs).drop 1) (((orderS bs).length - 1) * ((orderS bs).length + 2) + 2) ((List.replicate bs.length (-1)).set 0 0)).getD []
theorem domR_ok (bs : List S36) (hT : okT bs) (hne : 0 < bs.length) : domGo (numO bs) (ahS bs) (2 * (orderS bs).length) ((orderS bs).drop 1) (((orderS bs).length - 1) * ((orderS bs).length + 2) + 2) ((List.replicate bs.length (-1)).set 0 0) = some (domR bs) ∧ DEnd bs.length (orderS bs).length (orderS bs) (numO bs) (ahS bs) (domR bs) := by
  have E := env_of bs hT hne
  obtain ⟨n, L, Dd, T, hp, hr, hL, hD0, hn, hfu⟩ := DI.start E
  obtain ⟨dom', D', h1, h2, h3, h4, h5⟩ := dom_ends E (f := 2 * (orderS bs).length) (Nat.le_refl _) _ n L Dd T _ hp hr hL hD0 hn hfu
  have : domR bs = dom' := by unfold domR; rw [h1]; rfl
  rw [this]
  exact ⟨h1, D', h2, h3, h4, h5⟩
end Go.Proofs.Ytjmeignhhheckaa.H
namespace Go.Proofs.Ytjmeignhhheckaa.H
open Go.RowKit Go.Maps Go.Proofs.YtjmeignhhheckaaW.PrintWords Go.Proofs.YtjmeignhhheckaaW.PrintLast Go.Proofs.Ytjmeignhhheckaa.Q Go.Proofs.Ytjmeignhhheckaa.D
set_option maxRecDepth 100000
theorem meetB_good {nb m : Nat} {ord num dom : List Int} (hG : D.Good nb m ord dom) : ∀ (f a b : Nat), a < m → b < m → 0 ≤ dom.getD (ord.getD a 0).toNat 0 → 0 ≤ dom.getD (ord.getD b 0).toNat 0 →
    ∃ c, c < m ∧ meetB num dom f (ord.getD a 0) (ord.getD b 0) = ord.getD c 0 ∧ 0 ≤ dom.getD (ord.getD c 0).toNat 0 := by
  intro f
  induction f with
  | zero => intro a b ha hb h1 h2; exact ⟨a, ha, rfl, h1⟩
  | succ f ih =>
    intro a b ha hb h1 h2
    simp only [meetB]
    by_cases e : ord.getD a 0 = ord.getD b 0
    · rw [if_pos e]; exact ⟨a, ha, rfl, h1⟩
    · rw [if_neg e]
      by_cases hl : num.getD (ord.getD b 0).toNat 0 < num.getD (ord.getD a 0).toNat 0
      · rw [if_pos hl]
        obtain ⟨j, hj, hj2, _, hj3⟩ := hG.up a ha h1
        rw [hj2]
        exact ih j b hj hb hj3 h2
      · rw [if_neg hl]
        obtain ⟨j, hj, hj2, _, hj3⟩ := hG.up b hb h2
        rw [hj2]
        exact ih a j ha hj h1 hj3
section
variable (bs : List S36) (dom : List Int)
def EV (row : List Int) (j : Nat) (d : Int) : Prop := evalB (numO bs) dom (2 * (orderS bs).length) (row.drop j) d = evalB (numO bs) dom (2 * (orderS bs).length) row (-1)
def DOK (d : Int) : Prop := d = -1 ∨ ∃ e, e < (orderS bs).length ∧ d = (orderS bs).getD e 0 ∧ 0 ≤ dom.getD d.toNat 0
def SW (q : Nat) : Prop := sweepB (numO bs) (ahS bs) (2 * (orderS bs).length) dom ((orderS bs).drop (q + 1)) = sweepB (numO bs) (ahS bs) (2 * (orderS bs).length) dom ((orderS bs).drop 1)
end
variable {bs : List S36} {dom row : List Int} {j q : Nat} {d p b : Int}
theorem EV.start : EV bs dom row 0 (-1) := rfl
theorem EV.done (h : EV bs dom row row.length d) : evalB (numO bs) dom (2 * (orderS bs).length) row (-1) = d := by
  unfold EV at h
  rw [← h, List.drop_length]
  rfl
theorem dropI {l : List Int} {j : Nat} (h : j < l.length) : l.drop j = l.getD j 0 :: l.drop (j + 1) := by
  rw [List.drop_eq_getElem_cons h, List.getD_eq_getElem?_getD, List.getElem?_eq_getElem h]; rfl
theorem EV.step1 (h : EV bs dom row j d) (hj : j < row.length) (hp : row.getD j 0 = p) (h1 : dom.getD p.toNat 0 < 0) : EV bs dom row (j + 1) d := by
  unfold EV at *
  rw [dropI hj, hp, evalB, if_pos h1] at h
  exact h
theorem EV.step2 (h : EV bs dom row j d) (hj : j < row.length) (hp : row.getD j 0 = p) (h1 : ¬ dom.getD p.toNat 0 < 0) (h2 : d < 0) : EV bs dom row (j + 1) p := by
  unfold EV at *
  rw [dropI hj, hp, evalB, if_neg h1, if_pos h2] at h
  exact h
theorem EV.step3 (h : EV bs dom row j d) (hj : j < row.length) (hp : row.getD j 0 = p) (h1 : ¬ dom.getD p.toNat 0 < 0) (h2 : ¬ d < 0) : EV bs dom row (j + 1) (meetB (numO bs) dom (2 * (orderS bs).length) d p) := by
  unfold EV at *
  rw [dropI hj, hp, evalB, if_neg h1, if_neg h2] at h
  exact h
theorem SW.start : SW bs dom 0 := rfl
theorem SW.next (h : SW bs dom q) (hq : q + 1 < (orderS bs).length) (hb : (orderS bs).getD (q + 1) 0 = b) (he : evalB (numO bs) dom (2 * (orderS bs).length) ((ahS bs).getD b.toNat []) (-1) = dom.getD b.toNat 0) : SW bs dom (q + 1) := by
  unfold SW at *
  rw [dropI hq, hb, sweepB, if_pos he] at h
  exact h
theorem SW.jump (h : SW bs dom q) (hq : q + 1 < (orderS bs).length) (hb : (orderS bs).getD (q + 1) 0 = b) (he : evalB (numO bs) dom (2 * (orderS bs).length) ((ahS bs).getD b.toNat []) (-1) ≠ dom.getD b.toNat 0) :
    sweepB (numO bs) (ahS bs) (2 * (orderS bs).length) dom ((orderS bs).drop 1) = some (dom.set b.toNat (evalB (numO bs) dom (2 * (orderS bs).length) ((ahS bs).getD b.toNat []) (-1))) := by
  unfold SW at *
  rw [dropI hq, hb, sweepB, if_neg he] at h
  exact h.symm
theorem SW.done (h : SW bs dom q) (hq : ¬ q + 1 < (orderS bs).length) : sweepB (numO bs) (ahS bs) (2 * (orderS bs).length) dom ((orderS bs).drop 1) = none := by
  unfold SW at *
  rw [List.drop_of_length_le (by omega), sweepB] at h
  exact h.symm
theorem dom_jump {k : Nat} {dom' : List Int} (hE : Env bs.length (orderS bs).length (orderS bs) (numO bs) (ahS bs)) (hI : DI bs.length (orderS bs).length (orderS bs) (numO bs) (ahS bs) k dom)
    (hG : domGo (numO bs) (ahS bs) (2 * (orderS bs).length) ((orderS bs).drop 1) k dom = some (domR bs)) (h : sweepB (numO bs) (ahS bs) (2 * (orderS bs).length) dom ((orderS bs).drop 1) = some dom') :
    ∃ k', k' < k ∧ DI bs.length (orderS bs).length (orderS bs) (numO bs) (ahS bs) k' dom' ∧ domGo (numO bs) (ahS bs) (2 * (orderS bs).length) ((orderS bs).drop 1) k' dom' = some (domR bs) := by
  cases k with
  | zero => cases hG
  | succ k =>
    rcases DI.step hE (Nat.le_refl _) hI with ⟨h1, _⟩ | ⟨dom2, h1, h2⟩
    · rw [h1] at h; cases h
    · rw [h1] at h
      obtain rfl := Option.some.inj h
      rw [domGo, h1] at hG
      exact ⟨k, Nat.lt_succ_self k, h2, hG⟩
theorem dom_end {k : Nat} (hG : domGo (numO bs) (ahS bs) (2 * (orderS bs).length) ((orderS bs).drop 1) k dom = some (domR bs)) (h : sweepB (numO bs) (ahS bs) (2 * (orderS bs).length) dom ((orderS bs).drop 1) = none) : domR bs = dom := by
  cases k with
  | zero => cases hG
  | succ k =>
    rw [domGo, h] at hG
    exact (Option.some.inj hG).symm
theorem meet_call (w0 : World) (B n : Nat) (num dom : List Int) (ord : List Int) (frm : List (List Int)) (d p : Int) (hE : Env n ord.length ord num frm) (hG : D.Good n ord.length ord dom) (hn : n ≤ 5000) (hm : ord.length ≤ 5000) (e jj : Nat) (he : e < ord.length) (hj : jj < ord.length)
    (hd : d = ord.getD e 0) (hp : p = ord.getD jj 0) (hdi : 0 ≤ dom.getD d.toNat 0) (hdj : 0 ≤ dom.getD p.toNat 0) (w : World) (hW : DW w0 (B + 1) (B + 1 + 1 + 1) B (B + 1 + 1) n num dom w) :
    Calls Try.prog 87 #[.int .i64 d, .int .i64 p, .pointer (some ⟨B + 1, 0, none⟩), .pointer (some ⟨B + 1 + 1 + 1, 0, none⟩)] w fun e w' => e = .returned (.int .i64 (meetB num dom (2 * ord.length) d p)) ∧ Below w.heap.size w w' := by
  subst hd hp
  exact meet_any w0 _ _ _ _ n ord.length num dom ord frm hE hG hn hm (2 * ord.length) e jj he hj (by omega) hdi hdj w hW
theorem row_at {w : World} {SB gv n cv : Nat} {ok : Nat → Prop} {frm : List (List Int)} (h : Kd.S kRowI 37 w SB ok (.slice (some ⟨gv, 0, none⟩) n cv) frm) (bn : Nat) (hb : bn < frm.length) :
    ∃ Ar cr, w.cell? ⟨gv, bn, none⟩ = some (.slice Ar (frm.getD bn []).length cr) ∧ (frm.getD bn []).length ≤ cr ∧ Kd.C (Kd.int .i64) w Ar (frm.getD bn []).length (frm.getD bn []) := by
  have hC := (Kd.S_reads' h).2.2
  obtain ⟨ad, c, e, hl, hK, hc⟩ := Kd.C_get hC [] (bn : Int) (by omega) (by omega)
  obtain rfl := Option.some.inj e
  rw [Int.toNat_natCast] at hK hc
  obtain ⟨Ar, cr, rfl, h1, h2⟩ := hK
  refine ⟨Ar, cr, ?_, h1, h2⟩
  have := hc 0 _ rfl
  have e1 : bn * kRowI.sz + 0 = bn := by show bn * 1 + 0 = bn; omega
  rw [e1] at this
  have e2 : (⟨gv, 0, none⟩ : Addr).add bn = ⟨gv, bn, none⟩ := by simp [Addr.add]; exact fun h => h.symm
  rw [e2] at this
  exact this
theorem tail_at {w : World} {g n q : Nat} {ord : List Int} (h : Kd.C (Kd.int .i64) w (some ⟨g, 0, none⟩) n ord) (hq : q + 1 < n) : w.cell? ⟨g, 1 + q, none⟩ = some (.int .i64 (ord.getD (q + 1) 0)) := by
  obtain ⟨ad, e, f⟩ := Kd.at_int h ((q + 1 : Nat) : Int) (by omega) (by omega)
  obtain rfl := Option.some.inj e
  rw [Int.toNat_natCast] at f
  have e2 : (⟨g, 0, none⟩ : Addr).add (q + 1) = ⟨g, 1 + q, none⟩ := by simp [Addr.add]; omega
  rw [e2] at f
  exact f
end Go.Proofs.Ytjmeignhhheckaa.H
namespace Go.Proofs.Ytjmeignhhheckaa.H
open Go.RowKit Go.Maps Go.Proofs.YtjmeignhhheckaaW.PrintWords Go.Proofs.YtjmeignhhheckaaW.PrintLast Go.Proofs.Ytjmeignhhheckaa.Q Go.Proofs.Ytjmeignhhheckaa.D
set_option maxRecDepth 100000
theorem make37n (n : Nat) (hn : n ≤ 100000) (W : World) : (Instr.makeSlice 37 (.int .i64 n) (.int .i64 n)).run Try.prog W = .ok (.slice (some ⟨W.heap.size, 0, none⟩) n n) (W.alloc (.cells (Array.replicate n (.int .i64 0)) 3)) := by
  obtain ⟨i, hi, hzz⟩ := Option.map_eq_some_iff.1 infoS3
  simp only [Prod.mk.injEq] at hzz
  obtain ⟨hz0, hz1, hz2⟩ := hzz
  have := run_make (P := Try.prog) W 37 3 i _ Try.underlying37 hi hz0 .i64 .i64 (n : Int) (n : Int) (by omega) (by omega) (by rw [hz2]; omega) (by omega)
  rw [this, hz1, Int.toNat_natCast, Nat.mul_one, madeCells_same _ (.int .i64 0) (fun j hj => by
    have : j = 0 := by have : j < 1 := by simpa [Value.cells] using hj
                       omega
    subst this; rfl) (by simp [Value.cells])]
def tailAt (g c : Nat) : Addr := if c = 1 then ⟨g, 0, none⟩ else ⟨g, 1, none⟩
theorem slice1 (g m c : Nat) (hm : 1 ≤ m) (hc : m ≤ c) (W : World) : (Instr.slice 37 (.slice (some ⟨g, 0, none⟩) m c) (some (.int .i64 1)) none none).run Try.prog W = .ok (.slice (some (tailAt g c)) (m - 1) (c - 1)) W := by
  have hu := Try.underlying37
  unfold tailAt
  by_cases h : c = 1
  · subst h
    obtain rfl : m = 1 := by omega
    simp [go_sem, hu]
  · simp [go_sem, hu, h]
    intro h2
    omega
/-- flow.Dom's memory from the label on -/
structure DX (w : World) (G : Array Value) (B nb : Nat) (num dom : List Int) (A5 : Option Addr) (c5 : Nat) (ord : List Int) (v : Value) (frm : List (List Int)) (SB : Nat) (wr : World) : Prop where
  df : DF w G (B + 1) (B + 1 + 1 + 1) B (B + 1 + 1) nb num dom (.slice A5 ord.length c5) ord wr
  fr : Kd.S kRowI 37 wr SB (fun _ => True) v frm
  sb : B + 1 + 1 < SB
section
variable {w wr wr' : World} {G : Array Value} {B nb : Nat} {num dom : List Int} {A5 : Option Addr} {c5 : Nat} {ord : List Int} {v : Value} {frm : List (List Int)} {SB : Nat}
theorem DX.below (h : DX w G B nb num dom A5 c5 ord v frm SB wr) (hb : Below wr.heap.size wr wr') : DX w G B nb num dom A5 c5 ord v frm SB wr' :=
  ⟨h.df.below hb, Kd.S_below h.fr hb, h.sb⟩
theorem DX.drew (h : DX w G B nb num dom A5 c5 ord v frm SB wr) : DX w G B nb num dom A5 c5 ord v frm SB wr.drew := h.below (pw_below_drewN (Below.refl _ wr) 1)
theorem DX.setD (h : DX w G B nb num dom A5 c5 ord v frm SB wr) (i : Nat) (x : Int) : DX w G B nb num (dom.set i x) A5 c5 ord v frm SB (wr.setCell ⟨B + 1 + 1, i, none⟩ (.int .i64 x)) :=
  ⟨h.df.setD i x, Kd.S_mono (Kd.S_far (Kd.S_bound h.fr) (p := ⟨B + 1 + 1, i, none⟩) (fun k hk => by have := hk.2.1; have := h.sb; show k ≠ B + 1 + 1; omega) _) (fun k hk => hk.1), h.sb⟩
end
/-- what holds at the label: k more times -/
def DJ (w : World) (G : Array Value) (bs : List S36) (k : Nat) (a : Act) (wr : World) : Prop :=
  ∃ (u : Nat → Value) (B : Nat) (A5 : Option Addr) (c5 : Nat) (v : Value) (SB : Nat) (dom : List Int), a = { tmps := #[u 0, u 1, u 2, u 3, u 4, .slice A5 (orderS bs).length c5, .pointer (some ⟨B + 1, 0, none⟩), .pointer (some ⟨B + 1 + 1 + 1, 0, none⟩), u 8, u 9, u 10, .func (Fn.func 87) #[] #[.pointer (some ⟨B + 1, 0, none⟩), .pointer (some ⟨B + 1 + 1 + 1, 0, none⟩)], v, u 13, u 14, u 15, u 16, u 17, u 18, u 19, u 20, u 21, u 22, u 23, u 24, u 25, u 26, u 27, u 28, u 29, u 30, u 31, u 32, u 33, u 34, u 35, u 36, u 37, u 38, u 39, u 40, u 41, u 42, u 43, u 44, u 45, u 46, u 47, u 48, u 49, u 50, u 51, u 52, u 53, u 54, u 55, u 56, u 57, u 58, u 59, u 60, u 61, u 62, u 63, u 64, u 65, u 66, u 67, u 68, u 69, u 70, u 71, u 72, u 73, u 74, u 75, u 76, u 77, u 78, u 79, u 80, u 81, u 82, u 83, u 84, u 85, u 86, u 87, u 88, u 89, u 90, u 91, u 92, u 93, u 94, u 95, u 96, u 97, u 98, u 99, u 100, u 101, u 102, u 103], defers := [] } ∧ DX w G B bs.length (numO bs) dom A5 c5 (orderS bs) v (ahS bs) SB wr ∧
    DI bs.length (orderS bs).length (orderS bs) (numO bs) (ahS bs) k dom ∧ domGo (numO bs) (ahS bs) (2 * (orderS bs).length) ((orderS bs).drop 1) k dom = some (domR bs)
theorem DJ.intro {w : World} {G : Array Value} {bs : List S36} {k : Nat} {T : Array Value} {wr : World} {B : Nat} {A5 : Option Addr} {c5 : Nat} {v : Value} {SB : Nat} {dom : List Int}
    (hX : DX w G B bs.length (numO bs) dom A5 c5 (orderS bs) v (ahS bs) SB wr) (hI : DI bs.length (orderS bs).length (orderS bs) (numO bs) (ahS bs) k dom) (hG : domGo (numO bs) (ahS bs) (2 * (orderS bs).length) ((orderS bs).drop 1) k dom = some (domR bs))
    (hT : T = #[T.getD 0 undef, T.getD 1 undef, T.getD 2 undef, T.getD 3 undef, T.getD 4 undef, .slice A5 (orderS bs).length c5, .pointer (some ⟨B + 1, 0, none⟩), .pointer (some ⟨B + 1 + 1 + 1, 0, none⟩), T.getD 8 undef, T.getD 9 undef, T.getD 10 undef, .func (Fn.func 87) #[] #[.pointer (some ⟨B + 1, 0, none⟩), .pointer (some ⟨B + 1 + 1 + 1, 0, none⟩)], v, T.getD 13 undef, T.getD 14 undef, T.getD 15 undef, T.getD 16 undef, T.getD 17 undef, T.getD 18 undef, T.getD 19 undef, T.getD 20 undef, T.getD 21 undef, T.getD 22 undef, T.getD 23 undef, T.getD 24 undef, T.getD 25 undef, T.getD 26 undef, T.getD 27 undef, T.getD 28 undef, T.getD 29 undef, T.getD 30 undef, T.getD 31 undef, T.getD 32 undef, T.getD 33 undef, T.getD 34 undef, T.getD 35 undef, T.getD 36 undef, T.getD 37 undef, T.getD 38 undef, T.getD 39 undef, T.getD 40 undef, T.getD 41 undef, T.getD 42 undef, T.getD 43 undef, T.getD 44 undef, T.getD 45 undef, T.getD 46 undef, T.getD 47 undef, T.getD 48 undef, T.getD 49 undef, T.getD 50 undef, T.getD 51 undef, T.getD 52 undef, T.getD 53 undef, T.getD 54 undef, T.getD 55 undef, T.getD 56 undef, T.getD 57 undef, T.getD 58 undef, T.getD 59 undef, T.getD 60 undef, T.getD 61 undef, T.getD 62 undef, T.getD 63 undef, T.getD 64 undef, T.getD 65 undef, T.getD 66 undef, T.getD 67 undef, T.getD 68 undef, T.getD 69 undef, T.getD 70 undef, T.getD 71 undef, T.getD 72 undef, T.getD 73 undef, T.getD 74 undef, T.getD 75 undef, T.getD 76 undef, T.getD 77 undef, T.getD 78 undef, T.getD 79 undef, T.getD 80 undef, T.getD 81 undef, T.getD 82 undef, T.getD 83 undef, T.getD 84 undef, T.getD 85 undef, T.getD 86 undef, T.getD 87 undef, T.getD 88 undef, T.getD 89 undef, T.getD 90 undef, T.getD 91 undef, T.getD 92 undef, T.getD 93 undef, T.getD 94 undef, T.getD 95 undef, T.getD 96 undef, T.getD 97 undef, T.getD 98 undef, T.getD 99 undef, T.getD 100 undef, T.getD 101 undef, T.getD 102 undef, T.getD 103 undef]) : DJ w G bs k { tmps := T, defers := [] } wr := ⟨fun i => T.getD i undef, B, A5, c5, v, SB, dom, congrArg (fun t => Act.mk t []) hT, hX, hI, hG⟩
set_option maxHeartbeats 4000000 in
theorem dom_yes (A0 A2 : Option Addr) (c0 c2 : Nat) (a1 : Int) (l0 : List Bool) (bs : List S36) (w : World) (h0 : Kd.C Kd.bool w A0 l0.length l0) (hc0 : l0.length ≤ c0) (hC : Kd.C k36 w A2 bs.length bs) (hc : bs.length ≤ c2) (hs : smallG bs) (hE : gE l0 a1 bs = 0) :
    Calls Try.prog 51 #[.agg #[.slice A0 l0.length c0, .int .i64 a1, .slice A2 bs.length c2]] w fun e w' => ∃ v : Value, e = .returned (.tuple #[v, .int .i64 0]) ∧ Kd.R (Kd.int .i64) 3 w' w.heap.size (fun _ => True) v ((domR bs).set 0 (-1)) ∧ Below w.heap.size w w' := by
  have HC0 := Lib.hid h0
  have HL0 := Lib.hid hc0
  have HC := Lib.hid hC
  have G := gE_gok hE
  have hne := G.ne
  have hn := G.nb
  have HT := Lib.hid G.T
  have HO := Lib.hid (orderS_ok bs G.T hne)
  have HOF := Lib.hid (show paths_Order.f l0 a1 bs = some (orderS bs) from by unfold paths_Order.f; rw [if_pos ⟨hne, by omega, G.T⟩])
  have HEE := Lib.hid hE
  have hge : (gE l0 a1 bs != 0) = false := by simpa using hE
  have HENV := Lib.hid (env_of bs G.T hne)
  have HDR := Lib.hid (domR_ok bs G.T hne)
  clear h0 hc0 hC G hE
  have hm2 := make37n bs.length (by omega)
  have hu25 := Try.underlying25
  have HF := Lib.hid (show Below w.heap.size w (w.alloc (.cells #[.slice A0 l0.length c0, .int .i64 a1, .slice A2 bs.length c2] 25)) ∧ (w.alloc (.cells #[.slice A0 l0.length c0, .int .i64 a1, .slice A2 bs.length c2] 25)).heap[w.heap.size]? = some (.cells #[.slice A0 l0.length c0, .int .i64 a1, .slice A2 bs.length c2] 25 (0, 0)) from ⟨below_alloc (Below.refl _ _) _, blk_new _ _⟩)
  have hol : (orderS bs).length ≤ bs.length := by
    have : ((orderS bs).map Int.toNat).length ≤ bs.length := D.nodup_len bs.length _ (by
      refine (List.pairwise_map.2 (HO.out.nd.imp_of_mem (fun ha hb h e => h ?_)))
      have h1 := HO.out.rng _ ha
      have h2 := HO.out.rng _ hb
      omega) (fun i hi => by
      obtain ⟨o, ho, rfl⟩ := List.mem_map.1 hi
      have := HO.out.rng o ho
      omega)
    rwa [List.length_map] at this
  go_enter Try.func51, Try.ntmps51
  go_wp2_with fail
  refine wp_scope_ghost2 0 (DJ w #[.slice A0 l0.length c0, .int .i64 a1, .slice A2 bs.length c2] bs) rfl ?pass ?first
  case pass =>
    clear HOF hge hm2 HF HC0 HC HL0 HT HDR HEE
    rintro k a wp ⟨u, B, A5, c5, v, SB, dom, rfl, hX, hI, hGo⟩
    have HX := Lib.hid hX
    have HI := Lib.hid hI
    have HGO := Lib.hid hGo
    clear hX hI hGo
    obtain ⟨g5, cap5, hv5, hg5, hl5, _⟩ := Kd.R_form HX.out.df.od HO.out.ne
    obtain ⟨hA5, hc5e⟩ : A5 = some ⟨g5, 0, none⟩ ∧ c5 = cap5 := by injection hv5 with e _ e2; exact ⟨e, e2⟩
    subst hA5 hc5e
    clear hv5
    have HCC := Lib.hid (Kd.R_reads' HX.out.df.od)
    have hm1 := HO.out.ne
    have hsl := slice1 g5 (orderS bs).length c5 (by exact hm1) HCC.out.2.1
    have HAD := Lib.hid (show c5 ≠ 1 → tailAt g5 c5 = ⟨g5, 1, none⟩ from fun h => by unfold tailAt; rw [if_neg h])
    generalize tailAt g5 c5 = AD at *
    have HF0 := Lib.hid (Kd.S_form HX.out.fr (by rw [ahS_len]; exact hne))
    obtain ⟨gv, cv, hv, _, _, _⟩ := HF0.out
    subst hv
    clear HF0
    have HBN := Lib.hid (Below.refl wp.heap.size wp)
    have HSW := Lib.hid (SW.start (bs := bs) (dom := dom))
    have HGD := Lib.hid (DI.good HENV.out HI.out)
    go_wp2_with fail
    clear hsl
    go_loopw [62] (fun i wr => ∃ q : Nat, q + 1 ≤ (orderS bs).length ∧ i = .int .i64 q ∧ SW bs dom q ∧ Below wp.heap.size wp wr) (fun i _ => (orderS bs).length - 1 - (intOf i).toNat)
    case atStart => exact ⟨0, by omega, rfl, HSW.out, HBN.out⟩
    case round =>
      clear HSW HBN
      obtain ⟨w2, rfl⟩ : ∃ w2 : World, w2 = wr := ⟨_, rfl⟩
      obtain ⟨q, hq, rfl, hsw, hb⟩ := hrel
      have HSW := Lib.hid hsw
      have HB := Lib.hid hb
      clear hsw hb
      by_cases hlt : q < (orderS bs).length - 1
      · have HLT := Lib.hid hlt
        obtain rfl : AD = ⟨g5, 1, none⟩ := HAD.out (by have := HCC.out.2.1; omega)
        have HX2 := Lib.hid (HX.out.below HB.out)
        have hmem : (orderS bs).getD (q + 1) 0 ∈ orderS bs := getD_mem (by omega)
        have HBR := Lib.hid (HO.out.rng _ hmem)
        clear hmem
        have f0 := tail_at (q := q) (Kd.C_below HCC.out.2.2 HB.out) (by omega)
        generalize hbe : (orderS bs).getD (q + 1) 0 = b at f0 HBR
        have HBE := Lib.hid hbe
        clear hbe
        obtain ⟨bn, rfl⟩ := Int.eq_ofNat_of_zero_le HBR.out.1
        have hbl : bn < bs.length := by have := HBR.out.2; omega
        have HRW := Lib.hid (row_at HX2.out.fr bn (by rw [ahS_len]; exact hbl))
        obtain ⟨Ar, cr, f1, hcr, hCr⟩ := HRW.out
        clear HRW
        have HRP := Lib.hid (show ∀ p ∈ (ahS bs).getD bn [], ∃ j, j < (orderS bs).length ∧ p = (orderS bs).getD j 0 from fun p hp => by
          have h := HENV.out.frs (q + 1) (by omega) p
          rw [HBE.out, Int.toNat_natCast] at h
          exact h hp)
        generalize hrow : (ahS bs).getD bn [] = row at f1 hcr hCr HRP
        have HRD := Lib.hid hrow
        clear hrow
        have HCR := Lib.hid hCr
        have hrl := HCR.out.2.1
        clear hCr
        have HEV := Lib.hid (EV.start (bs := bs) (dom := dom) (row := row))
        have HB2 := Lib.hid (Below.refl w2.heap.size w2)
        have hbl2 : bn < (ahS bs).length := by rw [ahS_len]; exact hbl
        go_wp2_with fail
        go_loopw [15, 71] (fun d j wr => ∃ (jn : Nat) (di : Int), jn ≤ row.length ∧ j = .int .i64 jn ∧ d = .int .i64 di ∧ EV bs dom row jn di ∧ DOK bs dom di ∧ Below w2.heap.size w2 wr) (fun _ j _ => row.length - (intOf j).toNat)
        case atStart => exact ⟨0, -1, by omega, rfl, rfl, HEV.out, .inl rfl, HB2.out⟩
        case round =>
          clear HEV HB2
          obtain ⟨jn, di, hjn, rfl, rfl, hev, hdok, hb2⟩ := hrel
          have HEV := Lib.hid hev
          have HDO := Lib.hid hdok
          have HB2 := Lib.hid hb2
          clear hev hdok hb2
          have HX3 := Lib.hid (HX2.out.below HB2.out)
          by_cases hlj : jn < row.length
          · have hmem : row.getD jn 0 ∈ row := getD_mem hlj
            obtain ⟨jj, hjj, hpj⟩ := HRP.out _ hmem
            have HPJ := Lib.hid hpj
            clear hpj
            have HPR := Lib.hid (HENV.out.rng jj hjj)
            rw [← HPJ.out] at HPR
            clear hmem
            obtain ⟨ad, hAr, h0⟩ := Kd.at_int (Kd.C_below HCR.out HB2.out) (jn : Int) (by omega) (by omega)
            subst hAr
            rw [Int.toNat_natCast, show rd row (jn : Int) = row.getD jn 0 from by unfold rd; rw [Int.toNat_natCast]] at h0
            generalize hpe : row.getD jn 0 = p at h0 HPJ HPR
            have HPE := Lib.hid hpe
            clear hpe
            obtain ⟨pn, rfl⟩ := Int.eq_ofNat_of_zero_le HPR.out.1
            have hpl : pn < bs.length := by have := HPR.out.2; omega
            have g1 := blk_cell HX3.out.df.dw.dx 0
            have c1 := HX3.out.df.dw.dr.cell pn (by rw [HX3.out.df.dw.ld]; exact hpl)
            obtain ⟨dp, hdp⟩ : ∃ dp, dp = dom.getD pn 0 := ⟨_, rfl⟩
            rw [← hdp] at c1
            have HDP := Lib.hid (show dom.getD (pn : Int).toNat 0 = dp from by rw [Int.toNat_natCast, hdp])
            clear hdp
            have HB3 := Lib.hid HB2.out
            by_cases hk1 : dp < 0
            · have HEV2 := Lib.hid (HEV.out.step1 hlj HPE.out (by rw [HDP.out]; exact hk1))
              go_wp2_with fail
              go_roundw
              case rel => exact ⟨jn + 1, di, by omega, by go_num, rfl, HEV2.out, HDO.out, HB3.out⟩
              case measure => simp [intOf]; omega
            · by_cases hk2 : di < 0
              · have HEV2 := Lib.hid (HEV.out.step2 hlj HPE.out (by rw [HDP.out]; exact hk1) hk2)
                go_wp2_with fail
                go_roundw
                case rel => exact ⟨jn + 1, pn, by omega, by go_num, rfl, HEV2.out, .inr ⟨jj, hjj, HPJ.out, by rw [HDP.out]; omega⟩, HB3.out⟩
                case measure => simp [intOf]; omega
              · have HEV2 := Lib.hid (HEV.out.step3 hlj HPE.out (by rw [HDP.out]; exact hk1) hk2)
                have HEE := Lib.hid (show ∃ e, e < (orderS bs).length ∧ di = (orderS bs).getD e 0 ∧ 0 ≤ dom.getD di.toNat 0 from by
                  rcases HDO.out with h | h
                  · omega
                  · exact h)
                have HMG := Lib.hid (show DOK bs dom (meetB (numO bs) dom (2 * (orderS bs).length) di pn) from by
                  obtain ⟨e, he, hde, hd0⟩ := HEE.out
                  obtain ⟨c, hc1, hc2, hc3⟩ := meetB_good (num := numO bs) HGD.out (2 * (orderS bs).length) e jj he hjj (by rw [← hde]; exact hd0) (by rw [← HPJ.out, HDP.out]; omega)
                  rw [hde, HPJ.out]
                  exact .inr ⟨c, hc1, hc2, by rw [hc2]; exact hc3⟩)
                have HMC := Lib.hid (show ∀ W, DW w (B + 1) (B + 1 + 1 + 1) B (B + 1 + 1) bs.length (numO bs) dom W → Calls Try.prog 87 #[.int .i64 di, .int .i64 pn, .pointer (some ⟨B + 1, 0, none⟩), .pointer (some ⟨B + 1 + 1 + 1, 0, none⟩)] W fun e w' => e = .returned (.int .i64 (meetB (numO bs) dom (2 * (orderS bs).length) di pn)) ∧ Below W.heap.size W w' from fun W hW => by
                  obtain ⟨e, he, hde, hd0⟩ := HEE.out
                  exact meet_call w B bs.length (numO bs) dom (orderS bs) (ahS bs) di pn HENV.out HGD.out (by omega) (by omega) e jj he hjj hde HPJ.out hd0 (by rw [HDP.out]; omega) W hW)
                generalize meetB (numO bs) dom (2 * (orderS bs).length) di pn = dn at HEV2 HMG HMC
                go_wp2_with (go_at_call 87; go_loud (refine (HMC.out _ HX3.out.df.dw).mono ?_; rintro e w5 ⟨rfl, hb5⟩; have HB5 := Lib.hid (below_step HB3.out hb5); clear hb5))
                go_roundw
                case rel => exact ⟨jn + 1, dn, by omega, by go_num, rfl, HEV2.out, HMG.out, HB5.out⟩
                case measure => simp [intOf]; omega
          · obtain rfl : jn = row.length := by omega
            have HED := Lib.hid HEV.out.done
            have g1 := blk_cell HX3.out.df.dw.dx 0
            have c1 := HX3.out.df.dw.dr.cell bn (by rw [HX3.out.df.dw.ld]; exact hbl)
            obtain ⟨db, hdb⟩ : ∃ db, db = dom.getD bn 0 := ⟨_, rfl⟩
            rw [← hdb] at c1
            have HDB := Lib.hid (show dom.getD (bn : Int).toNat 0 = db from by rw [Int.toNat_natCast, hdb])
            have HRB := Lib.hid (show (ahS bs).getD (bn : Int).toNat [] = row from by rw [Int.toNat_natCast, HRD.out])
            clear hdb
            have HB3 := Lib.hid (below_step HB.out HB2.out)
            by_cases hk1 : di = db
            · subst hk1
              have HSW2 := Lib.hid (HSW.out.next (by omega) HBE.out (by rw [HRB.out, HED.out, HDB.out]))
              go_wp2_with fail
              go_roundw
              case rel => exact ⟨q + 1, by omega, by go_num, HSW2.out, HB3.out⟩
              case measure => simp [intOf]; omega
            · have hk2 : (di != db) = true := by simpa using hk1
              have HSJ := Lib.hid (HSW.out.jump (by omega) HBE.out (by rw [HRB.out, HED.out, HDB.out]; exact hk1))
              have HXS := Lib.hid (HX3.out.setD bn di)
              rw [HRB.out, HED.out, Int.toNat_natCast] at HSJ
              have f9 := blk_frozen HX3.out.df.dw.dr bn
              clear hk1
              go_wp2_with fail
              go_step3
              obtain ⟨k', hk', hI', hG'⟩ := dom_jump HENV.out HI.out HGO.out HSJ.out
              show _ ∧ _
              exact ⟨rfl, k', hk', DJ.intro HXS.out hI' hG' rfl⟩
      · have HX2 := Lib.hid (HX.out.below HB.out)
        have HRS := Lib.hid (dom_end HGO.out (HSW.out.done (by omega)))
        have g1 := blk_cell HX2.out.df.dw.dx 0
        have c1 := HX2.out.df.dw.dr.cell 0 (by rw [HX2.out.df.dw.ld]; exact hne)
        have f9 := blk_frozen HX2.out.df.dw.dr 0
        have HXS := Lib.hid (HX2.out.setD 0 (-1))
        have g2 := blk_cell HXS.out.df.dw.dx 0
        go_wp2_with fail
        simp only [Exit.jump]
        go_ret2
        rw [HRS.out]
        exact ⟨_, rfl, R_ints HXS.out.df.dw.dr (by rw [List.length_set]; exact HX2.out.df.dw.ld) (by have := HXS.out.df.hd; omega) trivial (by omega), HXS.out.df.dw.b⟩
  case first =>
    intro HREST
    go_wp2_with (first | (go_at_call 84; go_loud (refine (fcheck_calls (Kd.C_below HC0.out HF.out.1) HL0.out (Kd.C_below HC.out HF.out.1) hc hs).mono ?_; rintro e w1 ⟨rfl, hb1⟩; have HF1 := Lib.hid (And.intro (below_step HF.out.1 hb1) (blk_below HF.out.2 hb1)); clear hb1; have g0 : w1.cell? ⟨w.heap.size, 0, none⟩ = some (.slice A0 l0.length c0) := (blk_cell HF1.out.2 0).trans rfl; have g1 : w1.cell? ⟨w.heap.size, 1, none⟩ = some (.int .i64 a1) := (blk_cell HF1.out.2 1).trans rfl; have g2 : w1.cell? ⟨w.heap.size, 2, none⟩ = some (.slice A2 bs.length c2) := (blk_cell HF1.out.2 2).trans rfl)) | (go_at_call 85; go_loud (refine (paths_Order.calls A0 c0 l0 a1 A2 c2 bs (orderS bs) _ (Kd.C_below HC0.out HF1.out.1) HL0.out (Kd.C_below HC.out HF1.out.1) hc HOF.out).mono ?_; rintro e w2 ⟨v, rfl, hR1, hb1⟩; obtain ⟨A5, c5, hv5, hc5, hC5⟩ := Kd.R_reads hR1; clear hC5 hc5; subst hv5; have HR2 := Lib.hid hR1; have HF2 := Lib.hid (And.intro (below_step HF1.out.1 hb1) (blk_below HF1.out.2 hb1)); clear hb1 hR1 g0 g1 g2; have g0 : w2.cell? ⟨w.heap.size, 0, none⟩ = some (.slice A0 l0.length c0) := (blk_cell HF2.out.2 0).trans rfl; have g1 : w2.cell? ⟨w.heap.size, 1, none⟩ = some (.int .i64 a1) := (blk_cell HF2.out.2 1).trans rfl; have g2 : w2.cell? ⟨w.heap.size, 2, none⟩ = some (.slice A2 bs.length c2) := (blk_cell HF2.out.2 2).trans rfl; have g3 : ((w2.alloc (.cells (Array.replicate bs.length (.int .i64 0)) 3)).alloc (.cells #[.slice (some ⟨w2.heap.size, 0, none⟩) bs.length bs.length] 37)).cell? ⟨w.heap.size, 2, none⟩ = some (.slice A2 bs.length c2) := (blk_cell (blk_alloc (blk_alloc HF2.out.2 _) _) 2).trans rfl)))
    have HD := Lib.hid (show DF w #[.slice A0 l0.length c0, .int .i64 a1, .slice A2 bs.length c2] (w2.heap.size + 1) (w2.heap.size + 1 + 1 + 1) w2.heap.size (w2.heap.size + 1 + 1) bs.length (numG bs.length (orderS bs) 0) (dom0 bs.length 0) (.slice A5 (orderS bs).length c5) (orderS bs)
        ((((w2.alloc (.cells (Array.replicate bs.length (.int .i64 0)) 3)).alloc (.cells #[.slice (some ⟨w2.heap.size, 0, none⟩) bs.length bs.length] 37)).alloc (.cells (Array.replicate bs.length (.int .i64 0)) 3)).alloc (.cells #[.slice (some ⟨w2.heap.size + 1 + 1, 0, none⟩) bs.length bs.length] 37)) from by
      have e1 := blk_alloc (blk_alloc (blk_alloc (blk_new w2 (.cells (Array.replicate bs.length (.int .i64 0)) 3)) (.cells #[.slice (some ⟨w2.heap.size, 0, none⟩) bs.length bs.length] 37)) (.cells (Array.replicate bs.length (.int .i64 0)) 3)) (.cells #[.slice (some ⟨w2.heap.size + 1 + 1, 0, none⟩) bs.length bs.length] 37)
      have e2 := blk_alloc (blk_alloc (blk_new (w2.alloc (.cells (Array.replicate bs.length (.int .i64 0)) 3)) (.cells #[.slice (some ⟨w2.heap.size, 0, none⟩) bs.length bs.length] 37)) (.cells (Array.replicate bs.length (.int .i64 0)) 3)) (.cells #[.slice (some ⟨w2.heap.size + 1 + 1, 0, none⟩) bs.length bs.length] 37)
      have e3 := blk_alloc (blk_new ((w2.alloc (.cells (Array.replicate bs.length (.int .i64 0)) 3)).alloc (.cells #[.slice (some ⟨w2.heap.size, 0, none⟩) bs.length bs.length] 37)) (.cells (Array.replicate bs.length (.int .i64 0)) 3)) (.cells #[.slice (some ⟨w2.heap.size + 1 + 1, 0, none⟩) bs.length bs.length] 37)
      have e4 := blk_new (((w2.alloc (.cells (Array.replicate bs.length (.int .i64 0)) 3)).alloc (.cells #[.slice (some ⟨w2.heap.size, 0, none⟩) bs.length bs.length] 37)).alloc (.cells (Array.replicate bs.length (.int .i64 0)) 3)) (.cells #[.slice (some ⟨w2.heap.size + 1 + 1, 0, none⟩) bs.length bs.length] 37)
      simp only [World.size_alloc] at e2 e3 e4
      have hi : ∀ W g, W.heap[g]? = some (.cells (Array.replicate bs.length (.int .i64 0)) 3 (0, 0)) → IB W g (List.replicate bs.length 0) := fun W g h => by
        unfold IB
        rw [List.map_replicate]
        simpa using h
      have hb1 := below_alloc (below_alloc (below_alloc (below_alloc (Below.refl w2.heap.size w2) (.cells (Array.replicate bs.length (.int .i64 0)) 3)) (.cells #[.slice (some ⟨w2.heap.size, 0, none⟩) bs.length bs.length] 37)) (.cells (Array.replicate bs.length (.int .i64 0)) 3)) (.cells #[.slice (some ⟨w2.heap.size + 1 + 1, 0, none⟩) bs.length bs.length] 37)
      have hsz := HF2.out.1.size
      have hlt := blk_lt HF2.out.2
      have hRl : RI w2 w.heap.size (.slice A5 (orderS bs).length c5) (orderS bs) := Kd.R_lower HR2.out (by have := HF1.out.1.size; exact this)
      exact ⟨⟨below_step HF2.out.1 hb1, e2, e4, hi _ _ e1, hi _ _ e3, by simp [numG], by simp [dom0]⟩, blk_below HF2.out.2 hb1, hRl.below hb1, fun k hk => (by have := hRl.lt k hk; omega), hlt, by omega, by omega⟩)
    clear HF HF1 HF2 HR2 g0 g1 g2 g3 hm2
    generalize w2.heap.size = B at *
    go_loopw [35] (fun j wr => ∃ q : Nat, q ≤ bs.length ∧ j = .int .i64 q ∧ DF w #[.slice A0 l0.length c0, .int .i64 a1, .slice A2 bs.length c2] (B + 1) (B + 1 + 1 + 1) B (B + 1 + 1) bs.length (numG bs.length (orderS bs) 0) (dom0 bs.length q) (.slice A5 (orderS bs).length c5) (orderS bs) wr) (fun j _ => bs.length - (intOf j).toNat)
    case atStart => exact ⟨0, Nat.zero_le _, rfl, HD.out⟩
    case round =>
      clear HD
      obtain ⟨q, hq, rfl, hD⟩ := hrel
      have HD := Lib.hid hD
      clear hD
      have g1 := (blk_cell HD.out.dw.dx 0)
      by_cases hlt : q < bs.length
      · have c1 := HD.out.dw.dr.cell q (by rw [dom0_len]; exact hlt)
        have f1 := blk_frozen HD.out.dw.dr q
        have HD2 := Lib.hid (HD.out.setD q (-1))
        rw [← dom0_step] at HD2
        go_wp2
        go_roundw
        case rel => exact ⟨q + 1, by omega, by go_num, HD2.out⟩
        case measure => simp [intOf]; omega
      · obtain rfl : q = bs.length := by omega
        clear hlt
        go_wp2_with fail
        go_loopw [44] (fun j wr => ∃ q : Nat, q ≤ (orderS bs).length ∧ j = .int .i64 q ∧ DF w #[.slice A0 l0.length c0, .int .i64 a1, .slice A2 bs.length c2] (B + 1) (B + 1 + 1 + 1) B (B + 1 + 1) bs.length (numG bs.length (orderS bs) q) (dom0 bs.length bs.length) (.slice A5 (orderS bs).length c5) (orderS bs) wr) (fun j _ => (orderS bs).length - (intOf j).toNat)
        case atStart => exact ⟨0, Nat.zero_le _, rfl, HD.out⟩
        case round =>
          clear HD g1
          obtain ⟨q, hq, rfl, hD⟩ := hrel
          have HD := Lib.hid hD
          clear hD
          have g1 := (blk_cell HD.out.dw.nx 0)
          by_cases hlt : q < (orderS bs).length
          · obtain ⟨A6, c6, hv6, hc6, hC6⟩ := Kd.R_reads HD.out.od
            obtain ⟨hA6, hc6'⟩ : A6 = A5 ∧ c6 = c5 := by injection hv6 with e _ e2; exact ⟨e.symm, e2.symm⟩
            subst hA6 hc6'
            obtain ⟨ad6, hA6, f0⟩ := Kd.at_int hC6 (q : Int) (by omega) (by omega)
            subst hA6
            simp only [Int.toNat_natCast] at f0
            clear hC6 hv6 hc6
            have hmem : rd (orderS bs) q ∈ orderS bs := by unfold rd; exact getD_mem (by omega)
            have HBR := Lib.hid (HO.out.rng _ hmem)
            have HRD := Lib.hid (show (orderS bs).getD q 0 = rd (orderS bs) q from rfl)
            clear hmem
            generalize rd (orderS bs) q = b at *
            obtain ⟨bn, rfl⟩ := Int.eq_ofNat_of_zero_le HBR.out.1
            have hbl : bn < bs.length := by have := HBR.out.2; omega
            have c1 := HD.out.dw.nr.cell bn (by rw [numG_len]; exact hbl)
            have f1 := blk_frozen HD.out.dw.nr bn
            have HD2 := Lib.hid (HD.out.setN bn (q : Int))
            have HNS := Lib.hid (show numG bs.length (orderS bs) (q + 1) = (numG bs.length (orderS bs) q).set bn (q : Int) from by rw [numG_step, HRD.out, Int.toNat_natCast])
            rw [← HNS.out] at HD2
            go_wp2
            go_roundw
            case rel => exact ⟨q + 1, by omega, by go_num, HD2.out⟩
            case measure => simp [intOf]; omega
          · have hqe : q = (orderS bs).length := by omega
            subst hqe
            clear hlt g1
            have g1 := (blk_cell HD.out.dw.dx 0)
            have c1 := HD.out.dw.dr.cell 0 (by rw [dom0_len]; exact hne)
            have f1 := blk_frozen HD.out.dw.dr 0
            have HD2 := Lib.hid (HD.out.setD 0 0)
            clear HD
            have g2 := (blk_cell HD2.out.c0 0)
            have g3 := (blk_cell HD2.out.c0 1)
            have g4 := (blk_cell HD2.out.c0 2)
            go_wp2_with (go_at_call 86; go_loud (refine (ahead_any A0 A2 c0 c2 a1 l0 bs _ (Kd.C_below HC0.out HD2.out.dw.b) HL0.out (Kd.C_below HC.out HD2.out.dw.b) hc hne (by omega) HT.out).mono ?_; rintro e w5 ⟨v, rfl, hS1, hb1⟩; have HS := Lib.hid hS1; have HD3 := Lib.hid (HD2.out.below hb1); clear hb1 hS1 g1 g2 g3 g4 c1 f1))
            go_step3
            simp only [Exit.then]
            apply_assumption
            refine HREST (((orderS bs).length - 1) * ((orderS bs).length + 2) + 2) _ _ ?_
            clear HREST
            rw [dom0_all] at HD3
            exact DJ.intro ⟨HD3.out, HS.out, by have h := blk_lt HD2.out.dw.dr; simp only [World.size_setCell, World.size_drew, World.size_alloc] at h ⊢; omega⟩ (DI.start HENV.out) HDR.out.1 rfl
end Go.Proofs.Ytjmeignhhheckaa.H
namespace Go.Proofs.Ytjmeignhhheckaa.H
open Go.RowKit Go.Maps Go.Proofs.YtjmeignhhheckaaW.PrintWords Go.Proofs.YtjmeignhhheckaaW.PrintLast Go.Proofs.Ytjmeignhhheckaa.Q Go.Proofs.Ytjmeignhhheckaa.D
set_option maxRecDepth 100000
theorem dom_no (A0 A2 : Option Addr) (c0 c2 : Nat) (a1 : Int) (l0 : List Bool) (bs : List S36) (w : World) (h0 : Kd.C Kd.bool w A0 l0.length l0) (hc0 : l0.length ≤ c0) (hC : Kd.C k36 w A2 bs.length bs) (hc : bs.length ≤ c2) (hs : smallG bs) (hE : ¬ gE l0 a1 bs = 0) :
    Calls Try.prog 51 #[.agg #[.slice A0 l0.length c0, .int .i64 a1, .slice A2 bs.length c2]] w fun e w' => e = .returned (.tuple #[.slice none 0 0, .int .i64 (gE l0 a1 bs)]) ∧ Below w.heap.size w w' := by
  have HC0 := Lib.hid h0
  have HL0 := Lib.hid hc0
  have HC := Lib.hid hC
  have HE := Lib.hid hE
  have hge : (gE l0 a1 bs != 0) = true := by simpa using hE
  clear h0 hc0 hC hE
  have hu25 := Try.underlying25
  have HF := Lib.hid (show Below w.heap.size w (w.alloc (.cells #[.slice A0 l0.length c0, .int .i64 a1, .slice A2 bs.length c2] 25)) ∧ (w.alloc (.cells #[.slice A0 l0.length c0, .int .i64 a1, .slice A2 bs.length c2] 25)).heap[w.heap.size]? = some (.cells #[.slice A0 l0.length c0, .int .i64 a1, .slice A2 bs.length c2] 25 (0, 0)) from ⟨below_alloc (Below.refl _ _) _, blk_new _ _⟩)
  go_enter Try.func51, Try.ntmps51
  go_wp2_with fail
  go_step3
  go_wp2_with (go_at_call 84; go_loud (refine (fcheck_calls (Kd.C_below HC0.out HF.out.1) HL0.out (Kd.C_below HC.out HF.out.1) hc hs).mono ?_; rintro e w1 ⟨rfl, hb1⟩; have HF1 := Lib.hid (below_step HF.out.1 hb1); clear hb1))
  rw [Exit.noGoto_ret]
  go_ret2
  exact ⟨rfl, HF1.out⟩
def domS (xs : List Bool) (sites : Int) (bs : List S36) : List Int × Int := if gE xs sites bs = 0 then ((domR bs).set 0 (-1), 0) else ([], gE xs sites bs)
theorem dom_calls (A0 A2 : Option Addr) (c0 c2 : Nat) (a1 : Int) (l0 : List Bool) (bs : List S36) (w : World) (h0 : Kd.C Kd.bool w A0 l0.length l0) (hc0 : l0.length ≤ c0) (hC : Kd.C k36 w A2 bs.length bs) (hc : bs.length ≤ c2) (hs : smallG bs) :
    Calls Try.prog 51 #[.agg #[.slice A0 l0.length c0, .int .i64 a1, .slice A2 bs.length c2]] w fun e w' => ∃ v : Value, e = .returned (.tuple #[v, .int .i64 (domS l0 a1 bs).2]) ∧ Kd.R (Kd.int .i64) 3 w' w.heap.size (fun _ => True) v (domS l0 a1 bs).1 ∧ Below w.heap.size w w' := by
  unfold domS
  by_cases hE : gE l0 a1 bs = 0
  · rw [if_pos hE]
    exact dom_yes A0 A2 c0 c2 a1 l0 bs w h0 hc0 hC hc hs hE
  · rw [if_neg hE]
    refine (dom_no A0 A2 c0 c2 a1 l0 bs w h0 hc0 hC hc hs hE).mono ?_
    rintro e w' ⟨rfl, hb⟩
    exact ⟨_, rfl, Kd.R_nil _ _ _ _ _, hb⟩
end Go.Proofs.Ytjmeignhhheckaa.H
namespace Go.Proofs.Ytjmeignhhheckaa.Q
open Go.RowKit Go.Proofs.YtjmeignhhheckaaW.PrintWords Go.Proofs.YtjmeignhhheckaaW.PrintLast
/-- flow.Dom, where no block is too long -/
def flow_Dom.f (l0 : List Bool) (a1 : Int) (bs : List S36) : Option (List Int × Int) := if H.smallG bs then some (H.domS l0 a1 bs) else none
theorem flow_Dom.calls (A0 : Option Addr) (c0 : Nat) (l0 : List Bool) (a1 : Int) (A2 : Option Addr) (c2 : Nat) (l2 : List S36) (r1 : List Int) (r2 : Int) (w : World) (h0 : Kd.C Kd.bool w A0 l0.length l0) (hc0 : l0.length ≤ c0) (h2 : Kd.C k36 w A2 l2.length l2) (hc2 : l2.length ≤ c2) (h : flow_Dom.f l0 a1 l2 = some (r1, r2)) :
    Calls Try.prog 51 #[.agg #[.slice A0 l0.length c0, .int .i64 a1, .slice A2 l2.length c2]] w fun e w' => ∃ v0_ : Value, e = .returned (.tuple #[v0_, .int .i64 r2]) ∧ Kd.R (Kd.int .i64) 3 w' w.heap.size (fun _ => True) v0_ r1 ∧ Below w.heap.size w w' := by
  unfold flow_Dom.f at h
  split at h
  · rename_i hs
    have h := Option.some.inj h
    have := H.dom_calls A0 A2 c0 c2 a1 l0 l2 w h0 hc0 h2 hc2 hs
    rw [h] at this
    exact this
  · cases h
/-- flow.ahead, where the ways lead somewhere -/
def flow_ahead.f (_l0 : List Bool) (_a1 : Int) (bs : List S36) : Option (List (List Int)) := if 0 < bs.length ∧ bs.length ≤ 5000 ∧ H.okT bs then some (H.ahS bs) else none
theorem flow_ahead.calls (A0 : Option Addr) (c0 : Nat) (l0 : List Bool) (a1 : Int) (A2 : Option Addr) (c2 : Nat) (l2 : List S36) (r : List (List Int)) (w : World) (h0 : Kd.C Kd.bool w A0 l0.length l0) (hc0 : l0.length ≤ c0) (h2 : Kd.C k36 w A2 l2.length l2) (hc2 : l2.length ≤ c2) (h : flow_ahead.f l0 a1 l2 = some r) :
    Calls Try.prog 86 #[.agg #[.slice A0 l0.length c0, .int .i64 a1, .slice A2 l2.length c2]] w fun e w' => ∃ v0_ : Value, e = .returned (v0_) ∧ Kd.S (Kd.slice 3 (Kd.int .i64)) 37 w' w.heap.size (fun _ => True) v0_ r ∧ Below w.heap.size w w' := by
  unfold flow_ahead.f at h
  split at h
  · rename_i hs
    have h := Option.some.inj h
    rw [← h]
    exact H.ahead_any A0 A2 c0 c2 a1 l0 l2 w h0 hc0 h2 hc2 hs.1 hs.2.1 hs.2.2
  · cases h
end Go.Proofs.Ytjmeignhhheckaa.Q
namespace Go.Proofs.Ytjmeignhhheckaa.Q
open Go.RowKit Go.Proofs.YtjmeignhhheckaaW.PrintWords Go.Proofs.YtjmeignhhheckaaW.PrintLast Go.Proofs.YtjmeignhhheckaaW.PrintMore
attribute [local go_sem] max2_int min2_int max_two min_two max_three min_three max_four min_four   -- for this text's walks alone
set_option linter.unusedVariables false
set_option linter.unusedSimpArgs false
def turnstilelaw01_SameNumbers.l0 : Nat → List Int → List Int → Int → Int → Option (Bool)
  | 0, _, _, _, _ => none
  | k + 1, x0, x1, x12, x13 => if x13 < x12 then (if 0 ≤ x13 then (if x13 < (x0.length : Int) then (if x13 < (x1.length : Int) then (if (rd x0 x13) = (rd x1 x13) then (turnstilelaw01_SameNumbers.l0 k x0 x1 x12 (wrap64 (x13 + 1))) else (some false)) else (none)) else (none)) else (none)) else (some true)
def turnstilelaw01_SameNumbers.f (k : Nat) (l0 : List Int) (l1 : List Int) : Option (Bool) := if (l0.length : Int) = (l1.length : Int) then (turnstilelaw01_SameNumbers.l0 k l0 l1 (l0.length : Int) 0) else (some false)
theorem turnstilelaw01_SameNumbers.mono_l : ∀ k, (∀ y0 y1 y2 y3, LeO (turnstilelaw01_SameNumbers.l0 k y0 y1 y2 y3) (turnstilelaw01_SameNumbers.l0 (k + 1) y0 y1 y2 y3))
  | 0 => fun _ _ _ _ r h => by simp [turnstilelaw01_SameNumbers.l0] at h
  | k + 1 => by
    have ih0 := turnstilelaw01_SameNumbers.mono_l k
    · intro y0 y1 y2 y3
      unfold turnstilelaw01_SameNumbers.l0
      repeat' first
      | (with_reducible exact ih0 _ _ _ _)
      | (with_reducible exact LeO.refl _)
      | (with_reducible exact LeO.none _)
      | (with_reducible refine LeO.ite ?_ ?_)
      | (with_reducible refine LeO.bind ?_ (fun _ => ?_))
      | exact ih0 _ _ _ _
      | exact LeO.none _
      | refine LeO.ite ?_ ?_
      | refine LeO.bind ?_ (fun _ => ?_)
theorem turnstilelaw01_SameNumbers.mono : ∀ a0 a1 k, LeO (turnstilelaw01_SameNumbers.f k a0 a1) (turnstilelaw01_SameNumbers.f (k + 1) a0 a1) := by
  intro a0 a1 k
  have ih0 := turnstilelaw01_SameNumbers.mono_l k
  unfold turnstilelaw01_SameNumbers.f
  repeat' first
      | (with_reducible exact ih0 _ _ _ _)
      | (with_reducible exact LeO.refl _)
      | (with_reducible exact LeO.none _)
      | (with_reducible refine LeO.ite ?_ ?_)
      | (with_reducible refine LeO.bind ?_ (fun _ => ?_))
      | exact ih0 _ _ _ _
      | exact LeO.none _
      | refine LeO.ite ?_ ?_
      | refine LeO.bind ?_ (fun _ => ?_)
set_option maxHeartbeats 8000000 in
set_option maxRecDepth 100000 in
theorem turnstilelaw01_SameNumbers.calls (k : Nat) (A0 : Option Addr) (c0 : Nat) (l0 : List Int) (A1 : Option Addr) (c1 : Nat) (l1 : List Int) (r : Bool) (w : World) (hr0 : Kd.C (Kd.int .i64) w A0 l0.length l0) (hc0 : l0.length ≤ c0) (hr1 : Kd.C (Kd.int .i64) w A1 l1.length l1) (hc1 : l1.length ≤ c1) (h : turnstilelaw01_SameNumbers.f k l0 l1 = some r) :
    Calls Try.prog 21 #[.slice A0 l0.length c0, .slice A1 l1.length c1] w fun e w' => e = .returned (.bool r) ∧ Drawn0 w w' := by
  have HR0 := Aside0.mk hr0
  have HC0 := Aside0.mk hc0
  clear hr0 hc0
  have HR1 := Aside0.mk hr1
  have HC1 := Aside0.mk hc1
  clear hr1 hc1
  have H : (if (l0.length : Int) = (l1.length : Int) then (turnstilelaw01_SameNumbers.l0 k l0 l1 (l0.length : Int) 0) else (some false)) = some r := h
  clear h
  by_cases c3 : (l0.length : Int) = (l1.length : Int)
  · rw [if_pos c3] at H
    have c3b0 : ((l0.length : Int) == (l1.length : Int)) = true := beq_iff_eq.mpr c3
    have c3b1 : ((l0.length : Int) != (l1.length : Int)) = false := bne_eq_false_iff_eq.mpr c3
    have c3b2 : (l0.length == l1.length) = true := by first | simpa using c3 | (simp at c3 ⊢; omega)
    clear c3
    have H' := Aside0.mk H
    clear H
    go_enter Try.func21, Try.ntmps21
    go_wp2
    repeat (go_quiet (fail); try go_wp2)
    go_loopg [13] k (fun kq v13 w' => ∃ (x13_1 : Int), v13 = .int .i64 x13_1 ∧ Aside0 (turnstilelaw01_SameNumbers.l0 kq l0 l1 (l0.length : Int) x13_1 = some r) ∧ Aside0 (kq ≤ k) ∧ Drawn0 w w')
    case atStart => exact ⟨(0), (by first | rfl | (simp; done) | (simp [*]; done)), H', ⟨Nat.le_refl _⟩, by repeat (first | exact Drawn0.refl _ | apply Drawn0.step)⟩
    case round =>
      clear H'
      try clear c1
      try clear c2
      try clear p2
      try clear c3
      try clear c3b0
      try clear c3b1
      try clear c3b2
      obtain ⟨x13_1, rfl, HA, HK1, ⟨m1, rfl⟩⟩ := hrel
      cases gk with
      | zero => exact absurd HA.out (by simp [turnstilelaw01_SameNumbers.l0])
      | succ k1 =>
        have H := HA.out
        clear HA
        simp only [turnstilelaw01_SameNumbers.l0] at H
        by_cases c4 : x13_1 < (l0.length : Int)
        · rw [if_pos c4] at H
          have c4b0 : decide (x13_1 < (l0.length : Int)) = true := decide_eq_true c4
          clear c4
          by_cases c5 : 0 ≤ x13_1
          · rw [if_pos c5] at H
            have c5b0 : decide (0 ≤ x13_1) = true := decide_eq_true c5
            clear c5
            by_cases c6 : x13_1 < (l0.length : Int)
            · rw [if_pos c6] at H
              have c6b0 : decide (x13_1 < (l0.length : Int)) = true := decide_eq_true c6
              clear c6
              by_cases c7 : x13_1 < (l1.length : Int)
              · rw [if_pos c7] at H
                have c7b0 : decide (x13_1 < (l1.length : Int)) = true := decide_eq_true c7
                clear c7
                by_cases c8 : (rd l0 x13_1) = (rd l1 x13_1)
                · rw [if_pos c8] at H
                  have c8b0 : ((rd l0 x13_1) == (rd l1 x13_1)) = true := beq_iff_eq.mpr c8
                  have c8b1 : ((rd l0 x13_1) != (rd l1 x13_1)) = false := bne_eq_false_iff_eq.mpr c8
                  clear c8
                  have H' := Aside0.mk H
                  clear H
                  have p182 : 0 ≤ (x13_1 : Int) := of_decide_eq_true (by first | (with_reducible assumption) | assumption)
                  have q182 : x13_1 < (l0.length : Int) := of_decide_eq_true (by first | (with_reducible assumption) | assumption)
                  obtain ⟨ad182, e182, hx182_0⟩ := Kd.at_int HR0.out x13_1 p182 q182
                  cases e182
                  replace p182 := eq_true p182
                  replace q182 := eq_true q182
                  have p183 : 0 ≤ (x13_1 : Int) := of_decide_eq_true (by first | (with_reducible assumption) | assumption)
                  have q183 : x13_1 < (l1.length : Int) := of_decide_eq_true (by first | (with_reducible assumption) | assumption)
                  obtain ⟨ad183, e183, hx183_0⟩ := Kd.at_int HR1.out x13_1 p183 q183
                  cases e183
                  replace p183 := eq_true p183
                  replace q183 := eq_true q183
                  go_wp2
                  repeat (go_quiet (fail); try go_wp2)
                  go_roundg k1
                  case measure => have := HK1.out; omega
                  case rel => exact ⟨(wrap64 (x13_1 + 1)), (by first | rfl | (simp; done) | (simp [*]; done)), H', ⟨by have := HK1.out; omega⟩, by repeat (first | exact Drawn0.refl _ | apply Drawn0.step)⟩
                · rw [if_neg c8] at H
                  have c8b0 : ((rd l0 x13_1) == (rd l1 x13_1)) = false := beq_eq_false_iff_ne.mpr c8
                  have c8b1 : ((rd l0 x13_1) != (rd l1 x13_1)) = true := bne_iff_ne.mpr c8
                  obtain rfl := Option.some.inj H
                  have p182 : 0 ≤ (x13_1 : Int) := of_decide_eq_true (by first | (with_reducible assumption) | assumption)
                  have q182 : x13_1 < (l0.length : Int) := of_decide_eq_true (by first | (with_reducible assumption) | assumption)
                  obtain ⟨ad182, e182, hx182_0⟩ := Kd.at_int HR0.out x13_1 p182 q182
                  cases e182
                  replace p182 := eq_true p182
                  replace q182 := eq_true q182
                  have p183 : 0 ≤ (x13_1 : Int) := of_decide_eq_true (by first | (with_reducible assumption) | assumption)
                  have q183 : x13_1 < (l1.length : Int) := of_decide_eq_true (by first | (with_reducible assumption) | assumption)
                  obtain ⟨ad183, e183, hx183_0⟩ := Kd.at_int HR1.out x13_1 p183 q183
                  cases e183
                  replace p183 := eq_true p183
                  replace q183 := eq_true q183
                  go_wp2
                  repeat (go_quiet (fail); try go_wp2)
                  go_ret
                  exact ⟨by first | rfl | (simp; done) | (simp [*]; done), by repeat (first | exact Drawn0.refl _ | apply Drawn0.step)⟩
              · rw [if_neg c7] at H
                exact absurd H (by simp)
            · rw [if_neg c6] at H
              exact absurd H (by simp)
          · rw [if_neg c5] at H
            exact absurd H (by simp)
        · rw [if_neg c4] at H
          have c4b0 : decide (x13_1 < (l0.length : Int)) = false := decide_eq_false c4
          clear c4
          obtain rfl := Option.some.inj H
          go_wp2
          repeat (go_quiet (fail); try go_wp2)
          go_ret
          exact ⟨by first | rfl | (simp; done) | (simp [*]; done), by repeat (first | exact Drawn0.refl _ | apply Drawn0.step)⟩
  · rw [if_neg c3] at H
    have c3b0 : ((l0.length : Int) == (l1.length : Int)) = false := beq_eq_false_iff_ne.mpr c3
    have c3b1 : ((l0.length : Int) != (l1.length : Int)) = true := bne_iff_ne.mpr c3
    have c3b2 : (l0.length == l1.length) = false := by first | simpa using c3 | (simp at c3 ⊢; omega)
    obtain rfl := Option.some.inj H
    go_enter Try.func21, Try.ntmps21
    go_wp2
    repeat (go_quiet (fail); try go_wp2)
    go_ret
    exact ⟨by first | rfl | (simp; done) | (simp [*]; done), by repeat (first | exact Drawn0.refl _ | apply Drawn0.step)⟩
end Go.Proofs.Ytjmeignhhheckaa.Q
namespace Go.Proofs.Ytjmeignhhheckaa.Q
open Go.RowKit Go.Proofs.YtjmeignhhheckaaW.PrintWords Go.Proofs.YtjmeignhhheckaaW.PrintLast Go.Proofs.YtjmeignhhheckaaW.PrintMore
attribute [local go_sem] max2_int min2_int max_two min_two max_three min_three max_four min_four   -- for this text's walks alone
set_option linter.unusedVariables false
set_option linter.unusedSimpArgs false
def flow_Ahead.f (l0_0 : List Bool) (a0_1 : Int) (l0_2 : List (S36)) : Option ((List (List Int)) × Int) := (flow_check.f l0_0 a0_1 l0_2).bind fun t264 => (if t264 = 0 then ((flow_ahead.f l0_0 a0_1 l0_2).bind fun t265 => (some (t265, 0))) else (some (([] : List (List Int)), t264)))
set_option maxHeartbeats 8000000 in
set_option maxRecDepth 100000 in
theorem flow_Ahead.calls (A0_0 : Option Addr) (c0_0 : Nat) (l0_0 : List Bool) (a0_1 : Int) (A0_2 : Option Addr) (c0_2 : Nat) (l0_2 : List (S36)) (r1 : List (List Int)) (r2 : Int) (w : World) (hr0_0 : Kd.C Kd.bool w A0_0 l0_0.length l0_0) (hc0_0 : l0_0.length ≤ c0_0) (hr0_2 : Kd.C k36 w A0_2 l0_2.length l0_2) (hc0_2 : l0_2.length ≤ c0_2) (h : flow_Ahead.f l0_0 a0_1 l0_2 = some (r1, r2)) :
    Calls Try.prog 50 #[.agg #[.slice A0_0 l0_0.length c0_0, .int .i64 a0_1, .slice A0_2 l0_2.length c0_2]] w fun e w' => ∃ v0_ : Value, e = .returned (.tuple #[v0_, .int .i64 r2]) ∧ Kd.S (Kd.slice 3 (Kd.int .i64)) 37 w' w.heap.size (fun _ => True) v0_ r1 ∧ Below w.heap.size w w' := by
  have hu25 := Try.underlying25
  have HR0_0 := Aside0.mk hr0_0
  have HC0_0 := Aside0.mk hc0_0
  clear hr0_0 hc0_0
  have HR0_2 := Aside0.mk hr0_2
  have HC0_2 := Aside0.mk hc0_2
  clear hr0_2 hc0_2
  have HB := Aside0.mk (Below.refl w.heap.size w)
  have H : ((flow_check.f l0_0 a0_1 l0_2).bind fun t264 => (if t264 = 0 then ((flow_ahead.f l0_0 a0_1 l0_2).bind fun t265 => (some (t265, 0))) else (some (([] : List (List Int)), t264)))) = some (r1, r2) := h
  clear h
  replace H := Option.bind_eq_some_iff.mp H
  obtain ⟨t264, A20, H⟩ := H
  replace H : (if t264 = 0 then ((flow_ahead.f l0_0 a0_1 l0_2).bind fun t265 => (some (t265, 0))) else (some (([] : List (List Int)), t264))) = some (r1, r2) := H
  have A2 := Aside0.mk A20
  clear A20
  by_cases c3 : t264 = 0
  · rw [if_pos c3] at H
    have c3b0 : (t264 == 0) = true := beq_iff_eq.mpr c3
    have c3b1 : (t264 != 0) = false := bne_eq_false_iff_eq.mpr c3
    clear c3
    replace H := Option.bind_eq_some_iff.mp H
    obtain ⟨t265, A40, H⟩ := H
    replace H : (some (t265, 0)) = some (r1, r2) := H
    have A4 := Aside0.mk A40
    clear A40
    simp only [Option.some.injEq, Prod.mk.injEq] at H
    obtain ⟨rfl, rfl⟩ := H
    go_enter Try.func50, Try.ntmps50
    go_wp2_with (first | ((with_reducible refine gate_dst (N := 1) rfl ?_); refine box_event ?hg (N := 1) ?hd (cs := #[.slice A0_0 l0_0.length c0_0, .int .i64 a0_1, .slice A0_2 l0_2.length c0_2]) (t := 25) ?hr ?_; (case hd => rfl); (case hg => rfl); (case hr => first | (go_simp; done) | (go_simp; rfl)); intro gb263 hg w5 hbox hb; have n0_ := Aside0.mk (below_step (by repeat (first | (with_reducible first | exact HB.out | apply below_alloc | apply pw_below_drewN | apply below_drew1) | exact HB.out)) hb); have n1_ := Aside0.mk (hbox); have n2_ := Aside0.mk ((by rw [hg]; exact (below_size (by repeat (first | (with_reducible first | exact HB.out | apply below_alloc | apply pw_below_drewN | apply below_drew1) | exact HB.out))) : w.heap.size ≤ gb263)); have n3_ := Aside0.mk ((by rw [hg]; exact (below_size (by repeat (first | (with_reducible first | exact HB.out | apply below_alloc | apply pw_below_drewN | apply below_drew1) | exact HB.out))) : w.heap.size ≤ gb263)); clear HB; have HB := n0_; have BK263 := n1_; have GW263 := n2_; have GE263 := n3_; clear n0_ n1_ n2_ n3_; clear hb hbox hg; have hcz6_0 : w5.cell? ⟨gb263, 0, none⟩ = some (.slice A0_0 l0_0.length c0_0) := (blk_cell BK263.out 0).trans rfl; have hcz6_1 : w5.cell? ⟨gb263, 1, none⟩ = some (.int .i64 a0_1) := (blk_cell BK263.out 1).trans rfl; have hcz6_2 : w5.cell? ⟨gb263, 2, none⟩ = some (.slice A0_2 l0_2.length c0_2) := (blk_cell BK263.out 2).trans rfl; have hfz6_0 := blk_frozen BK263.out 0; have hfz6_1 := blk_frozen BK263.out 1; have hfz6_2 := blk_frozen BK263.out 2) | ((with_reducible refine gate_callee (f := 84) rfl ?_); refine goesL_ (some 6) rfl rfl Try.func84 (by kernel_rfl) rfl #[.agg #[.slice A0_0 l0_0.length c0_0, .int .i64 a0_1, .slice A0_2 l0_2.length c0_2]] rfl (by (try simp only [List.map_toArray, List.map_cons, List.map_nil]); first | done | rfl | (simp only [List.length_drop, List.length_take]; rfl)) ?_; (with_reducible refine (flow_check.calls (fun k_ => k_ < w.heap.size) _ _ l0_0 a0_1 (fun k_ => k_ < w.heap.size) _ _ l0_2 t264 _ ?side1 ?side2 A2.out).mono ?_); (case side1 => exact Kd.V_mk HC0_0.out (Kd.F_below (Kd.C_F Kd.heap_bool HR0_0.out) (by repeat (first | (with_reducible first | exact HB.out | apply below_alloc | apply pw_below_drewN | apply below_drew1 | refine below_set ?_ GE263.out) | exact HB.out)))); (case side2 => exact Kd.V_mk HC0_2.out (Kd.F_below (Kd.C_F k36_heap HR0_2.out) (by repeat (first | (with_reducible first | exact HB.out | apply below_alloc | apply pw_below_drewN | apply below_drew1 | refine below_set ?_ GE263.out) | exact HB.out)))); rintro e w7 ⟨rfl, hb⟩; refine ⟨_, rfl, ?_⟩; have n0_ := Aside0.mk (blk_below (g := gb263) (o := .cells #[.slice A0_0 l0_0.length c0_0, .int .i64 a0_1, .slice A0_2 l0_2.length c0_2] 25 (0, 0)) (by (with_reducible repeat (first | refine blk_drewN ?_ _ | refine blk_drew ?_ | refine blk_alloc ?_ _)); exact BK263.out) hb); have n1_ := Aside0.mk (below_step (by repeat (first | (with_reducible first | exact HB.out | apply below_alloc | apply pw_below_drewN | apply below_drew1 | refine below_set ?_ GE263.out) | exact HB.out)) hb); clear BK263; clear HB; have BK263 := n0_; have HB := n1_; clear n0_ n1_; (try clear hb); (try clear hb2); (try clear hk); (try clear hi); have hcz8_0 : w7.cell? ⟨gb263, 0, none⟩ = some (.slice A0_0 l0_0.length c0_0) := (blk_cell BK263.out 0).trans rfl; have hcz8_1 : w7.cell? ⟨gb263, 1, none⟩ = some (.int .i64 a0_1) := (blk_cell BK263.out 1).trans rfl; have hcz8_2 : w7.cell? ⟨gb263, 2, none⟩ = some (.slice A0_2 l0_2.length c0_2) := (blk_cell BK263.out 2).trans rfl; have hfz8_0 := blk_frozen BK263.out 0; have hfz8_1 := blk_frozen BK263.out 1; have hfz8_2 := blk_frozen BK263.out 2) | ((with_reducible refine gate_callee (f := 86) rfl ?_); refine goesL_ (some 11) rfl rfl Try.func86 (by kernel_rfl) rfl #[.agg #[.slice A0_0 l0_0.length c0_0, .int .i64 a0_1, .slice A0_2 l0_2.length c0_2]] rfl (by (try simp only [List.map_toArray, List.map_cons, List.map_nil]); first | done | rfl | (simp only [List.length_drop, List.length_take]; rfl)) ?_; (with_reducible refine (flow_ahead.calls _ _ l0_0 a0_1 _ _ l0_2 t265 _ ?side1 ?side2 ?side3 ?side4 A4.out).mono ?_); (case side1 => repeat (first | exact (Kd.C_below HR0_0.out HB.out) | (with_reducible refine Kd.C_alloc ?_ _) | (with_reducible refine Kd.C_drewN ?_ _) | (with_reducible refine Kd.C_drew ?_))); (case side2 => exact HC0_0.out); (case side3 => repeat (first | exact (Kd.C_below HR0_2.out HB.out) | (with_reducible refine Kd.C_alloc ?_ _) | (with_reducible refine Kd.C_drewN ?_ _) | (with_reducible refine Kd.C_drew ?_))); (case side4 => exact HC0_2.out); rintro e w9 ⟨v266, rfl, ho0, hb⟩; refine ⟨_, rfl, ?_⟩; have n0_ := Aside0.mk (Kd.S_lower ho0 (below_size (by repeat (first | (with_reducible first | exact HB.out | apply below_alloc | apply pw_below_drewN | apply below_drew1 | refine below_set ?_ GE263.out) | exact HB.out)))); have n1_ := Aside0.mk (blk_below (g := gb263) (o := .cells #[.slice A0_0 l0_0.length c0_0, .int .i64 a0_1, .slice A0_2 l0_2.length c0_2] 25 (0, 0)) (by (with_reducible repeat (first | refine blk_drewN ?_ _ | refine blk_drew ?_ | refine blk_alloc ?_ _)); exact BK263.out) hb); have n2_ := Aside0.mk (below_step (by repeat (first | (with_reducible first | exact HB.out | apply below_alloc | apply pw_below_drewN | apply below_drew1 | refine below_set ?_ GE263.out) | exact HB.out)) hb); clear BK263; clear HB; have HO267 := n0_; have BK263 := n1_; have HB := n2_; clear n0_ n1_ n2_; (try clear hb); (try clear hb2); (try clear hk); (try clear hi); (try clear ho0)))
    go_ret2
    exact ⟨_, by first | rfl | (simp [errW_none, errW_some] <;> rfl) | (simp [*, errW_none, errW_some] <;> rfl), by (with_reducible repeat (first | apply Kd.S_alloc | apply Kd.S_drewN | apply Kd.S_drew)); exact HO267.out, by repeat (first | (with_reducible first | exact HB.out | apply below_alloc | apply pw_below_drewN | apply below_drew1 | refine below_set ?_ GE263.out) | exact HB.out)⟩
  · rw [if_neg c3] at H
    have c3b0 : (t264 == 0) = false := beq_eq_false_iff_ne.mpr c3
    have c3b1 : (t264 != 0) = true := bne_iff_ne.mpr c3
    simp only [Option.some.injEq, Prod.mk.injEq] at H
    obtain ⟨rfl, rfl⟩ := H
    go_enter Try.func50, Try.ntmps50
    go_wp2_with (first | ((with_reducible refine gate_dst (N := 1) rfl ?_); refine box_event ?hg (N := 1) ?hd (cs := #[.slice A0_0 l0_0.length c0_0, .int .i64 a0_1, .slice A0_2 l0_2.length c0_2]) (t := 25) ?hr ?_; (case hd => rfl); (case hg => rfl); (case hr => first | (go_simp; done) | (go_simp; rfl)); intro gb263 hg w10 hbox hb; have n0_ := Aside0.mk (below_step (by repeat (first | (with_reducible first | exact HB.out | apply below_alloc | apply pw_below_drewN | apply below_drew1) | exact HB.out)) hb); have n1_ := Aside0.mk (hbox); have n2_ := Aside0.mk ((by rw [hg]; exact (below_size (by repeat (first | (with_reducible first | exact HB.out | apply below_alloc | apply pw_below_drewN | apply below_drew1) | exact HB.out))) : w.heap.size ≤ gb263)); have n3_ := Aside0.mk ((by rw [hg]; exact (below_size (by repeat (first | (with_reducible first | exact HB.out | apply below_alloc | apply pw_below_drewN | apply below_drew1) | exact HB.out))) : w.heap.size ≤ gb263)); clear HB; have HB := n0_; have BK263 := n1_; have GW263 := n2_; have GE263 := n3_; clear n0_ n1_ n2_ n3_; clear hb hbox hg; have hcz11_0 : w10.cell? ⟨gb263, 0, none⟩ = some (.slice A0_0 l0_0.length c0_0) := (blk_cell BK263.out 0).trans rfl; have hcz11_1 : w10.cell? ⟨gb263, 1, none⟩ = some (.int .i64 a0_1) := (blk_cell BK263.out 1).trans rfl; have hcz11_2 : w10.cell? ⟨gb263, 2, none⟩ = some (.slice A0_2 l0_2.length c0_2) := (blk_cell BK263.out 2).trans rfl; have hfz11_0 := blk_frozen BK263.out 0; have hfz11_1 := blk_frozen BK263.out 1; have hfz11_2 := blk_frozen BK263.out 2) | ((with_reducible refine gate_callee (f := 84) rfl ?_); refine goesL_ (some 6) rfl rfl Try.func84 (by kernel_rfl) rfl #[.agg #[.slice A0_0 l0_0.length c0_0, .int .i64 a0_1, .slice A0_2 l0_2.length c0_2]] rfl (by (try simp only [List.map_toArray, List.map_cons, List.map_nil]); first | done | rfl | (simp only [List.length_drop, List.length_take]; rfl)) ?_; (with_reducible refine (flow_check.calls (fun k_ => k_ < w.heap.size) _ _ l0_0 a0_1 (fun k_ => k_ < w.heap.size) _ _ l0_2 t264 _ ?side1 ?side2 A2.out).mono ?_); (case side1 => exact Kd.V_mk HC0_0.out (Kd.F_below (Kd.C_F Kd.heap_bool HR0_0.out) (by repeat (first | (with_reducible first | exact HB.out | apply below_alloc | apply pw_below_drewN | apply below_drew1 | refine below_set ?_ GE263.out) | exact HB.out)))); (case side2 => exact Kd.V_mk HC0_2.out (Kd.F_below (Kd.C_F k36_heap HR0_2.out) (by repeat (first | (with_reducible first | exact HB.out | apply below_alloc | apply pw_below_drewN | apply below_drew1 | refine below_set ?_ GE263.out) | exact HB.out)))); rintro e w12 ⟨rfl, hb⟩; refine ⟨_, rfl, ?_⟩; have n0_ := Aside0.mk (blk_below (g := gb263) (o := .cells #[.slice A0_0 l0_0.length c0_0, .int .i64 a0_1, .slice A0_2 l0_2.length c0_2] 25 (0, 0)) (by (with_reducible repeat (first | refine blk_drewN ?_ _ | refine blk_drew ?_ | refine blk_alloc ?_ _)); exact BK263.out) hb); have n1_ := Aside0.mk (below_step (by repeat (first | (with_reducible first | exact HB.out | apply below_alloc | apply pw_below_drewN | apply below_drew1 | refine below_set ?_ GE263.out) | exact HB.out)) hb); clear BK263; clear HB; have BK263 := n0_; have HB := n1_; clear n0_ n1_; (try clear hb); (try clear hb2); (try clear hk); (try clear hi)))
    go_ret2
    exact ⟨_, by first | rfl | (simp [errW_none, errW_some] <;> rfl) | (simp [*, errW_none, errW_some] <;> rfl), by first | exact Kd.S_nil _ _ _ _ _ | exact Kd.N_nil _ _ _ _ _ | exact Kd.V_nil _ _ _ _ _ | exact Kd.Q_nil _ _ _ _ _ | exact Kd.R_nil _ _ _ _ _, by repeat (first | (with_reducible first | exact HB.out | apply below_alloc | apply pw_below_drewN | apply below_drew1 | refine below_set ?_ GE263.out) | exact HB.out)⟩
end Go.Proofs.Ytjmeignhhheckaa.Q
namespace Go.Proofs.Ytjmeignhhheckaa.Q
open Go.RowKit Go.Proofs.YtjmeignhhheckaaW.PrintWords Go.Proofs.YtjmeignhhheckaaW.PrintLast Go.Proofs.YtjmeignhhheckaaW.PrintMore
attribute [local go_sem] max2_int min2_int max_two min_two max_three min_three max_four min_four   -- for this text's walks alone
set_option linter.unusedVariables false
set_option linter.unusedSimpArgs false
def turnstilelaw01_SameFlags.l0 : Nat → List Bool → List Bool → Int → Int → Option (Bool)
  | 0, _, _, _, _ => none
  | k + 1, x0, x1, x12, x13 => if x13 < x12 then (if 0 ≤ x13 then (if x13 < (x0.length : Int) then (if x13 < (x1.length : Int) then (if ((rdOf false x0 x13) != (rdOf false x1 x13)) = true then (some false) else (turnstilelaw01_SameFlags.l0 k x0 x1 x12 (wrap64 (x13 + 1)))) else (none)) else (none)) else (none)) else (some true)
def turnstilelaw01_SameFlags.f (k : Nat) (l0 : List Bool) (l1 : List Bool) : Option (Bool) := if (l0.length : Int) = (l1.length : Int) then (turnstilelaw01_SameFlags.l0 k l0 l1 (l0.length : Int) 0) else (some false)
theorem turnstilelaw01_SameFlags.mono_l : ∀ k, (∀ y0 y1 y2 y3, LeO (turnstilelaw01_SameFlags.l0 k y0 y1 y2 y3) (turnstilelaw01_SameFlags.l0 (k + 1) y0 y1 y2 y3))
  | 0 => fun _ _ _ _ r h => by simp [turnstilelaw01_SameFlags.l0] at h
  | k + 1 => by
    have ih0 := turnstilelaw01_SameFlags.mono_l k
    · intro y0 y1 y2 y3
      unfold turnstilelaw01_SameFlags.l0
      repeat' first
      | (with_reducible exact ih0 _ _ _ _)
      | (with_reducible exact LeO.refl _)
      | (with_reducible exact LeO.none _)
      | (with_reducible refine LeO.ite ?_ ?_)
      | (with_reducible refine LeO.bind ?_ (fun _ => ?_))
      | exact ih0 _ _ _ _
      | exact LeO.none _
      | refine LeO.ite ?_ ?_
      | refine LeO.bind ?_ (fun _ => ?_)
theorem turnstilelaw01_SameFlags.mono : ∀ a0 a1 k, LeO (turnstilelaw01_SameFlags.f k a0 a1) (turnstilelaw01_SameFlags.f (k + 1) a0 a1) := by
  intro a0 a1 k
  have ih0 := turnstilelaw01_SameFlags.mono_l k
  unfold turnstilelaw01_SameFlags.f
  repeat' first
      | (with_reducible exact ih0 _ _ _ _)
      | (with_reducible exact LeO.refl _)
      | (with_reducible exact LeO.none _)
      | (with_reducible refine LeO.ite ?_ ?_)
      | (with_reducible refine LeO.bind ?_ (fun _ => ?_))
      | exact ih0 _ _ _ _
      | exact LeO.none _
      | refine LeO.ite ?_ ?_
      | refine LeO.bind ?_ (fun _ => ?_)
set_option maxHeartbeats 8000000 in
set_option maxRecDepth 100000 in
theorem turnstilelaw01_SameFlags.calls (k : Nat) (A0 : Option Addr) (c0 : Nat) (l0 : List Bool) (A1 : Option Addr) (c1 : Nat) (l1 : List Bool) (r : Bool) (w : World) (hr0 : Kd.C Kd.bool w A0 l0.length l0) (hc0 : l0.length ≤ c0) (hr1 : Kd.C Kd.bool w A1 l1.length l1) (hc1 : l1.length ≤ c1) (h : turnstilelaw01_SameFlags.f k l0 l1 = some r) :
    Calls Try.prog 88 #[.slice A0 l0.length c0, .slice A1 l1.length c1] w fun e w' => e = .returned (.bool r) ∧ Drawn0 w w' := by
  have HR0 := Aside0.mk hr0
  have HC0 := Aside0.mk hc0
  clear hr0 hc0
  have HR1 := Aside0.mk hr1
  have HC1 := Aside0.mk hc1
  clear hr1 hc1
  have H : (if (l0.length : Int) = (l1.length : Int) then (turnstilelaw01_SameFlags.l0 k l0 l1 (l0.length : Int) 0) else (some false)) = some r := h
  clear h
  by_cases c3 : (l0.length : Int) = (l1.length : Int)
  · rw [if_pos c3] at H
    have c3b0 : ((l0.length : Int) == (l1.length : Int)) = true := beq_iff_eq.mpr c3
    have c3b1 : ((l0.length : Int) != (l1.length : Int)) = false := bne_eq_false_iff_eq.mpr c3
    have c3b2 : (l0.length == l1.length) = true := by first | simpa using c3 | (simp at c3 ⊢; omega)
    clear c3
    have H' := Aside0.mk H
    clear H
    go_enter Try.func88, Try.ntmps88
    go_wp2
    repeat (go_quiet (fail); try go_wp2)
    go_loopg [13] k (fun kq v13 w' => ∃ (x13_1 : Int), v13 = .int .i64 x13_1 ∧ Aside0 (turnstilelaw01_SameFlags.l0 kq l0 l1 (l0.length : Int) x13_1 = some r) ∧ Aside0 (kq ≤ k) ∧ Drawn0 w w')
    case atStart => exact ⟨(0), (by first | rfl | (simp; done) | (simp [*]; done)), H', ⟨Nat.le_refl _⟩, by repeat (first | exact Drawn0.refl _ | apply Drawn0.step)⟩
    case round =>
      clear H'
      try clear c1
      try clear p2
      try clear c3
      try clear c3b0
      try clear c3b1
      try clear c3b2
      obtain ⟨x13_1, rfl, HA, HK1, ⟨m1, rfl⟩⟩ := hrel
      cases gk with
      | zero => exact absurd HA.out (by simp [turnstilelaw01_SameFlags.l0])
      | succ k1 =>
        have H := HA.out
        clear HA
        simp only [turnstilelaw01_SameFlags.l0] at H
        by_cases c4 : x13_1 < (l0.length : Int)
        · rw [if_pos c4] at H
          have c4b0 : decide (x13_1 < (l0.length : Int)) = true := decide_eq_true c4
          clear c4
          by_cases c5 : 0 ≤ x13_1
          · rw [if_pos c5] at H
            have c5b0 : decide (0 ≤ x13_1) = true := decide_eq_true c5
            clear c5
            by_cases c6 : x13_1 < (l0.length : Int)
            · rw [if_pos c6] at H
              have c6b0 : decide (x13_1 < (l0.length : Int)) = true := decide_eq_true c6
              clear c6
              by_cases c7 : x13_1 < (l1.length : Int)
              · rw [if_pos c7] at H
                have c7b0 : decide (x13_1 < (l1.length : Int)) = true := decide_eq_true c7
                clear c7
                by_cases c8 : ((rdOf false l0 x13_1) != (rdOf false l1 x13_1)) = true
                · rw [if_pos c8] at H
                  have c8b0 : ((rdOf false l0 x13_1) != (rdOf false l1 x13_1)) = true := c8
                  (try (have c8b1 : decide ((rdOf false l0 x13_1) = (rdOf false l1 x13_1)) = false := by simpa using c8))
                  (try (have c8b2 : ((rdOf false l0 x13_1) == (rdOf false l1 x13_1)) = false := by simpa using c8))
                  (try (have c8b3 : ¬ ((rdOf false l0 x13_1) = (rdOf false l1 x13_1)) := by simpa using c8))
                  clear c8
                  obtain rfl := Option.some.inj H
                  have p270 : 0 ≤ (x13_1 : Int) := of_decide_eq_true (by first | (with_reducible assumption) | assumption)
                  have q270 : x13_1 < (l0.length : Int) := of_decide_eq_true (by first | (with_reducible assumption) | assumption)
                  obtain ⟨ad270, e270, hx270_0⟩ := Kd.at_bool HR0.out x13_1 p270 q270
                  cases e270
                  replace p270 := eq_true p270
                  replace q270 := eq_true q270
                  have p271 : 0 ≤ (x13_1 : Int) := of_decide_eq_true (by first | (with_reducible assumption) | assumption)
                  have q271 : x13_1 < (l1.length : Int) := of_decide_eq_true (by first | (with_reducible assumption) | assumption)
                  obtain ⟨ad271, e271, hx271_0⟩ := Kd.at_bool HR1.out x13_1 p271 q271
                  cases e271
                  replace p271 := eq_true p271
                  replace q271 := eq_true q271
                  go_wp2
                  repeat (go_quiet (fail); try go_wp2)
                  go_ret
                  exact ⟨by first | rfl | (simp; done) | (simp [*]; done), by repeat (first | exact Drawn0.refl _ | apply Drawn0.step)⟩
                · rw [if_neg c8] at H
                  have c8b0 : ((rdOf false l0 x13_1) != (rdOf false l1 x13_1)) = false := by simpa using c8
                  (try (have c8b1 : decide ((rdOf false l0 x13_1) = (rdOf false l1 x13_1)) = true := by simpa using c8))
                  (try (have c8b2 : ((rdOf false l0 x13_1) == (rdOf false l1 x13_1)) = true := by simpa using c8))
                  clear c8
                  have H' := Aside0.mk H
                  clear H
                  have p270 : 0 ≤ (x13_1 : Int) := of_decide_eq_true (by first | (with_reducible assumption) | assumption)
                  have q270 : x13_1 < (l0.length : Int) := of_decide_eq_true (by first | (with_reducible assumption) | assumption)
                  obtain ⟨ad270, e270, hx270_0⟩ := Kd.at_bool HR0.out x13_1 p270 q270
                  cases e270
                  replace p270 := eq_true p270
                  replace q270 := eq_true q270
                  have p271 : 0 ≤ (x13_1 : Int) := of_decide_eq_true (by first | (with_reducible assumption) | assumption)
                  have q271 : x13_1 < (l1.length : Int) := of_decide_eq_true (by first | (with_reducible assumption) | assumption)
                  obtain ⟨ad271, e271, hx271_0⟩ := Kd.at_bool HR1.out x13_1 p271 q271
                  cases e271
                  replace p271 := eq_true p271
                  replace q271 := eq_true q271
                  go_wp2
                  repeat (go_quiet (fail); try go_wp2)
                  go_roundg k1
                  case measure => have := HK1.out; omega
                  case rel => exact ⟨(wrap64 (x13_1 + 1)), (by first | rfl | (simp; done) | (simp [*]; done)), H', ⟨by have := HK1.out; omega⟩, by repeat (first | exact Drawn0.refl _ | apply Drawn0.step)⟩
              · rw [if_neg c7] at H
                exact absurd H (by simp)
            · rw [if_neg c6] at H
              exact absurd H (by simp)
          · rw [if_neg c5] at H
            exact absurd H (by simp)
        · rw [if_neg c4] at H
          have c4b0 : decide (x13_1 < (l0.length : Int)) = false := decide_eq_false c4
          clear c4
          obtain rfl := Option.some.inj H
          go_wp2
          repeat (go_quiet (fail); try go_wp2)
          go_ret
          exact ⟨by first | rfl | (simp; done) | (simp [*]; done), by repeat (first | exact Drawn0.refl _ | apply Drawn0.step)⟩
  · rw [if_neg c3] at H
    have c3b0 : ((l0.length : Int) == (l1.length : Int)) = false := beq_eq_false_iff_ne.mpr c3
    have c3b1 : ((l0.length : Int) != (l1.length : Int)) = true := bne_iff_ne.mpr c3
    have c3b2 : (l0.length == l1.length) = false := by first | simpa using c3 | (simp at c3 ⊢; omega)
    obtain rfl := Option.some.inj H
    go_enter Try.func88, Try.ntmps88
    go_wp2
    repeat (go_quiet (fail); try go_wp2)
    go_ret
    exact ⟨by first | rfl | (simp; done) | (simp [*]; done), by repeat (first | exact Drawn0.refl _ | apply Drawn0.step)⟩
end Go.Proofs.Ytjmeignhhheckaa.Q
namespace Go.Proofs.Ytjmeignhhheckaa.Q
open Go.RowKit Go.Proofs.YtjmeignhhheckaaW.PrintWords Go.Proofs.YtjmeignhhheckaaW.PrintLast Go.Proofs.YtjmeignhhheckaaW.PrintMore
attribute [local go_sem] max2_int min2_int max_two min_two max_three min_three max_four min_four   -- for this text's walks alone
set_option linter.unusedVariables false
set_option linter.unusedSimpArgs false
def turnstilelaw12_alive.f (k : Nat)  : Option (Bool) := (some (([(⟨([] : List (S46)), 1, 0, 1, 0⟩ : S36), (⟨([] : List (S46)), 3, 0, 0, 0⟩ : S36), (⟨([] : List (S46)), 3, 0, 0, 0⟩ : S36)] : List (S36)) : List (S36))).bind fun y272 => ((flow_Reach.f k ([] : List Bool) 0 y272).bind fun bt276 => ((flow_Dom.f ([] : List Bool) 0 y272).bind fun bt280 => ((flow_Ahead.f ([] : List Bool) 0 ([] : List (S36))).bind fun bt284 => (if bt276.2 = 0 then (if bt280.2 = 0 then (if bt284.2 = 14 then ((turnstilelaw01_SameFlags.f k bt276.1 (([true, true, false] : List Bool))).bind fun t291 => (if t291 = true then ((turnstilelaw01_SameNumbers.f k bt280.1 (([(-1), 0, (-1)] : List Int))).bind fun t295 => (some t295)) else (some false))) else (some false)) else (some false)) else (some false)))))
theorem turnstilelaw12_alive.mono : ∀ k, LeO (turnstilelaw12_alive.f k ) (turnstilelaw12_alive.f (k + 1) ) := by
  intro  k
  unfold turnstilelaw12_alive.f
  repeat' first
      | (with_reducible exact flow_Reach.mono _ _ _ _)
      | (with_reducible exact turnstilelaw01_SameFlags.mono _ _ _)
      | (with_reducible exact turnstilelaw01_SameNumbers.mono _ _ _)
      | (with_reducible exact LeO.refl _)
      | (with_reducible exact LeO.none _)
      | (with_reducible refine LeO.ite ?_ ?_)
      | (with_reducible refine LeO.bind ?_ (fun _ => ?_))
      | exact flow_Reach.mono _ _ _ _
      | exact turnstilelaw01_SameFlags.mono _ _ _
      | exact turnstilelaw01_SameNumbers.mono _ _ _
      | exact LeO.none _
      | refine LeO.ite ?_ ?_
      | refine LeO.bind ?_ (fun _ => ?_)
set_option maxHeartbeats 8000000 in
set_option maxRecDepth 100000 in
theorem turnstilelaw12_alive.calls (k : Nat)  (r : Bool) (w : World) (h : turnstilelaw12_alive.f k  = some r) :
    Calls Try.prog 52 #[] w fun e w' => e = .returned (.bool r) ∧ Below w.heap.size w w' := by
  have hu36 := Try.underlying36
  have hu25 := Try.underlying25
  have HB := Aside0.mk (Below.refl w.heap.size w)
  have H : ((some (([(⟨([] : List (S46)), 1, 0, 1, 0⟩ : S36), (⟨([] : List (S46)), 3, 0, 0, 0⟩ : S36), (⟨([] : List (S46)), 3, 0, 0, 0⟩ : S36)] : List (S36)) : List (S36))).bind fun y272 => ((flow_Reach.f k ([] : List Bool) 0 y272).bind fun bt276 => ((flow_Dom.f ([] : List Bool) 0 y272).bind fun bt280 => ((flow_Ahead.f ([] : List Bool) 0 ([] : List (S36))).bind fun bt284 => (if bt276.2 = 0 then (if bt280.2 = 0 then (if bt284.2 = 14 then ((turnstilelaw01_SameFlags.f k bt276.1 (([true, true, false] : List Bool))).bind fun t291 => (if t291 = true then ((turnstilelaw01_SameNumbers.f k bt280.1 (([(-1), 0, (-1)] : List Int))).bind fun t295 => (some t295)) else (some false))) else (some false)) else (some false)) else (some false)))))) = some r := h
  clear h
  obtain ⟨y272, hy272⟩ : ∃ y_ : List (S36), y_ = (([(⟨([] : List (S46)), 1, 0, 1, 0⟩ : S36), (⟨([] : List (S46)), 3, 0, 0, 0⟩ : S36), (⟨([] : List (S46)), 3, 0, 0, 0⟩ : S36)] : List (S36))) := ⟨_, rfl⟩
  replace H : ((flow_Reach.f k ([] : List Bool) 0 y272).bind fun bt276 => ((flow_Dom.f ([] : List Bool) 0 y272).bind fun bt280 => ((flow_Ahead.f ([] : List Bool) 0 ([] : List (S36))).bind fun bt284 => (if bt276.2 = 0 then (if bt280.2 = 0 then (if bt284.2 = 14 then ((turnstilelaw01_SameFlags.f k bt276.1 (([true, true, false] : List Bool))).bind fun t291 => (if t291 = true then ((turnstilelaw01_SameNumbers.f k bt280.1 (([(-1), 0, (-1)] : List Int))).bind fun t295 => (some t295)) else (some false))) else (some false)) else (some false)) else (some false))))) = some r := by first | (rw [hy272]; with_reducible exact H) | (have H2_ := (Option.bind_some _ _).symm.trans H; rw [hy272]; with_reducible exact H2_) | (have H2_ := (Option.bind_some _ _).symm.trans H; with_reducible exact H2_) | with_reducible exact H | (rw [hy272]; exact H) | exact H
  have Ny272 := Aside0.mk hy272
  clear hy272
  replace H := Option.bind_eq_some_iff.mp H
  obtain ⟨⟨t276, t279⟩, A10, H⟩ := H
  replace H : ((flow_Dom.f ([] : List Bool) 0 y272).bind fun bt280 => ((flow_Ahead.f ([] : List Bool) 0 ([] : List (S36))).bind fun bt284 => (if t279 = 0 then (if bt280.2 = 0 then (if bt284.2 = 14 then ((turnstilelaw01_SameFlags.f k t276 (([true, true, false] : List Bool))).bind fun t291 => (if t291 = true then ((turnstilelaw01_SameNumbers.f k bt280.1 (([(-1), 0, (-1)] : List Int))).bind fun t295 => (some t295)) else (some false))) else (some false)) else (some false)) else (some false)))) = some r := H
  have A1 := Aside0.mk A10
  clear A10
  replace H := Option.bind_eq_some_iff.mp H
  obtain ⟨⟨t280, t283⟩, A20, H⟩ := H
  replace H : ((flow_Ahead.f ([] : List Bool) 0 ([] : List (S36))).bind fun bt284 => (if t279 = 0 then (if t283 = 0 then (if bt284.2 = 14 then ((turnstilelaw01_SameFlags.f k t276 (([true, true, false] : List Bool))).bind fun t291 => (if t291 = true then ((turnstilelaw01_SameNumbers.f k t280 (([(-1), 0, (-1)] : List Int))).bind fun t295 => (some t295)) else (some false))) else (some false)) else (some false)) else (some false))) = some r := H
  have A2 := Aside0.mk A20
  clear A20
  replace H := Option.bind_eq_some_iff.mp H
  obtain ⟨⟨t284, t287⟩, A30, H⟩ := H
  replace H : (if t279 = 0 then (if t283 = 0 then (if t287 = 14 then ((turnstilelaw01_SameFlags.f k t276 (([true, true, false] : List Bool))).bind fun t291 => (if t291 = true then ((turnstilelaw01_SameNumbers.f k t280 (([(-1), 0, (-1)] : List Int))).bind fun t295 => (some t295)) else (some false))) else (some false)) else (some false)) else (some false)) = some r := H
  have A3 := Aside0.mk A30
  clear A30
  by_cases c4 : t279 = 0
  · rw [if_pos c4] at H
    have c4b0 : (t279 == 0) = true := beq_iff_eq.mpr c4
    have c4b1 : (t279 != 0) = false := bne_eq_false_iff_eq.mpr c4
    clear c4
    by_cases c5 : t283 = 0
    · rw [if_pos c5] at H
      have c5b0 : (t283 == 0) = true := beq_iff_eq.mpr c5
      have c5b1 : (t283 != 0) = false := bne_eq_false_iff_eq.mpr c5
      clear c5
      by_cases c6 : t287 = 14
      · rw [if_pos c6] at H
        have c6b0 : (t287 == 14) = true := beq_iff_eq.mpr c6
        have c6b1 : (t287 != 14) = false := bne_eq_false_iff_eq.mpr c6
        clear c6
        obtain ⟨y288, hy288⟩ : ∃ y_ : List Bool, y_ = (([true, true, false] : List Bool)) := ⟨_, rfl⟩
        replace H : ((turnstilelaw01_SameFlags.f k t276 y288).bind fun t291 => (if t291 = true then ((turnstilelaw01_SameNumbers.f k t280 (([(-1), 0, (-1)] : List Int))).bind fun t295 => (some t295)) else (some false))) = some r := by first | (rw [hy288]; with_reducible exact H) | (have H2_ := (Option.bind_some _ _).symm.trans H; rw [hy288]; with_reducible exact H2_) | (have H2_ := (Option.bind_some _ _).symm.trans H; with_reducible exact H2_) | with_reducible exact H | (rw [hy288]; exact H) | exact H
        have Ny288 := Aside0.mk hy288
        clear hy288
        replace H := Option.bind_eq_some_iff.mp H
        obtain ⟨t291, A70, H⟩ := H
        replace H : (if t291 = true then ((turnstilelaw01_SameNumbers.f k t280 (([(-1), 0, (-1)] : List Int))).bind fun t295 => (some t295)) else (some false)) = some r := H
        have A7 := Aside0.mk A70
        clear A70
        by_cases c8 : t291 = true
        · subst c8
          have H1 : ((turnstilelaw01_SameNumbers.f k t280 (([(-1), 0, (-1)] : List Int))).bind fun t295 => (some t295)) = some r := by rw [if_pos rfl] at H; exact H
          clear H
          have H := H1
          clear H1
          obtain ⟨y292, hy292⟩ : ∃ y_ : List Int, y_ = (([(-1), 0, (-1)] : List Int)) := ⟨_, rfl⟩
          replace H : ((turnstilelaw01_SameNumbers.f k t280 y292).bind fun t295 => (some t295)) = some r := by first | (rw [hy292]; with_reducible exact H) | (have H2_ := (Option.bind_some _ _).symm.trans H; rw [hy292]; with_reducible exact H2_) | (have H2_ := (Option.bind_some _ _).symm.trans H; with_reducible exact H2_) | with_reducible exact H | (rw [hy292]; exact H) | exact H
          have Ny292 := Aside0.mk hy292
          clear hy292
          replace H := Option.bind_eq_some_iff.mp H
          obtain ⟨t295, A90, H⟩ := H
          replace H : (some t295) = some r := H
          have A9 := Aside0.mk A90
          clear A90
          obtain rfl := Option.some.inj H
          go_enter Try.func52, Try.ntmps52
          go_wp2_with (first | ((with_reducible refine gate_dst (N := 11) rfl ?_); (try (refine gate_guard (by rfl) ?_; dsimp only)); refine Kd.S_lit k36 _ 36 ?hg (N := 11) ?hd (xs := ([(⟨([] : List (S46)), 1, 0, 1, 0⟩ : S36), (⟨([] : List (S46)), 3, 0, 0, 0⟩ : S36), (⟨([] : List (S46)), 3, 0, 0, 0⟩ : S36)] : List (S36))) (inner := [.slice none 0 0, .int .u8 1, .int .i64 0, .int .i64 1, .int .i64 0, .slice none 0 0, .int .u8 3, .int .i64 0, .int .i64 0, .int .i64 0, .slice none 0 0, .int .u8 3, .int .i64 0, .int .i64 0, .int .i64 0]) (ok := fun _ => True) (okp := fun _ => True) ?hr ?hp (fun _ hk => hk) trivial (Below.refl _ _) (Nat.le_refl _) (by simp) ?_; (case hd => rfl); (case hg => rfl); (case hr => first | (go_simp; done) | (go_simp; rfl)); (case hp => exact (Reps.c5 (show Kd.M k36 _ _ _ (⟨([] : List (S46)), 1, 0, 1, 0⟩ : S36) [.slice none 0 0, .int .u8 1, .int .i64 0, .int .i64 1, .int .i64 0] from (k36_mkM _ _ _ (⟨([] : List (S46)), 1, 0, 1, 0⟩ : S36) (Kd.R_nil _ _ _ _ _))) (Reps.c5 (show Kd.M k36 _ _ _ (⟨([] : List (S46)), 3, 0, 0, 0⟩ : S36) [.slice none 0 0, .int .u8 3, .int .i64 0, .int .i64 0, .int .i64 0] from (k36_mkM _ _ _ (⟨([] : List (S46)), 3, 0, 0, 0⟩ : S36) (Kd.R_nil _ _ _ _ _))) (Reps.c5 (show Kd.M k36 _ _ _ (⟨([] : List (S46)), 3, 0, 0, 0⟩ : S36) [.slice none 0 0, .int .u8 3, .int .i64 0, .int .i64 0, .int .i64 0] from (k36_mkM _ _ _ (⟨([] : List (S46)), 3, 0, 0, 0⟩ : S36) (Kd.R_nil _ _ _ _ _))) (Reps.none _ _))))); intro v273 w10 ho11 hb hg_ hnew_; clear hg_ hnew_; (first | rw [← Ny272.out] at ho11 | (simp only [Int.reduceToNat] at ho11; rw [← Ny272.out] at ho11)); have n0_ := Aside0.mk (Kd.S_lower ho11 (below_size (by repeat (first | (with_reducible first | exact HB.out | apply below_alloc | apply pw_below_drewN | apply below_drew1) | exact HB.out)))); have n1_ := Aside0.mk (below_step (by repeat (first | (with_reducible first | exact HB.out | apply below_alloc | apply pw_below_drewN | apply below_drew1) | exact HB.out)) hb); clear HB; have HO274 := n0_; have HB := n1_; clear n0_ n1_; clear hb ho11; obtain ⟨Ao12, co12, eo12⟩ := Kd.S_slice HO274.out; subst eo12) | ((with_reducible refine gate_dst (N := 1) rfl ?_); (try (refine gate_guard (by rfl) ?_; dsimp only)); refine box_event ?hg (N := 1) ?hd (cs := #[.slice none 0 0, .int .i64 0, .slice none 0 0]) (t := 25) ?hr ?_; (case hd => rfl); (case hg => rfl); (case hr => first | (go_simp; done) | (go_simp; rfl)); intro gb275 hg w13 hbox hb; have n0_ := Aside0.mk (Kd.S_below (by (with_reducible repeat (first | apply Kd.S_alloc | apply Kd.S_drewN | apply Kd.S_drew)); exact HO274.out) hb); have n1_ := Aside0.mk (below_step (by repeat (first | (with_reducible first | exact HB.out | apply below_alloc | apply pw_below_drewN | apply below_drew1) | exact HB.out)) hb); have n2_ := Aside0.mk (hbox); have n3_ := Aside0.mk ((by rw [hg]; exact (below_size (by repeat (first | (with_reducible first | exact HB.out | apply below_alloc | apply pw_below_drewN | apply below_drew1) | exact HB.out))) : w.heap.size ≤ gb275)); have n4_ := Aside0.mk ((by rw [hg]; exact (below_size (by repeat (first | (with_reducible first | exact HB.out | apply below_alloc | apply pw_below_drewN | apply below_drew1) | exact HB.out))) : w.heap.size ≤ gb275)); clear HO274; clear HB; have HO274 := n0_; have HB := n1_; have BK275 := n2_; have GW275 := n3_; have GE275 := n4_; clear n0_ n1_ n2_ n3_ n4_; clear hb hbox hg; have hcz14_0 : w13.cell? ⟨gb275, 0, none⟩ = some (.slice none 0 0) := (blk_cell BK275.out 0).trans rfl; have hcz14_1 : w13.cell? ⟨gb275, 1, none⟩ = some (.int .i64 0) := (blk_cell BK275.out 1).trans rfl; have hcz14_2 : w13.cell? ⟨gb275, 2, none⟩ = some (.slice none 0 0) := (blk_cell BK275.out 2).trans rfl; have hfz14_0 := blk_frozen BK275.out 0; have hfz14_1 := blk_frozen BK275.out 1; have hfz14_2 := blk_frozen BK275.out 2) | ((with_reducible refine gate_callee (f := 49) rfl ?_); refine goesL_ (some 15) rfl rfl Try.func49 (by kernel_rfl) rfl #[.agg #[.slice none 0 0, .int .i64 0, .slice Ao12 y272.length co12]] rfl (by (try simp only [List.map_toArray, List.map_cons, List.map_nil]); first | done | rfl | (simp only [List.length_drop, List.length_take]; rfl)) ?_; (refine (flow_Reach.calls k _ _ ([] : List Bool) 0 _ _ y272 t276 t279 _ ?side1 ?side2 ?side3 ?side4 A1.out).mono ?_); (case side1 => exact Kd.C_nil _ _); (case side2 => exact Nat.le_refl _); (case side3 => refine (Kd.S_reads' (e := 36) (base := w.heap.size) (ok := fun k_ => True) (n := y272.length) (c := co12) ?_).2.2; exact (by (with_reducible repeat (first | apply Kd.S_alloc | apply Kd.S_drewN | apply Kd.S_drew)); exact (Kd.S_mono (Kd.S_far (p := ⟨gb275, 2, none⟩) (Kd.S_far (p := ⟨gb275, 1, none⟩) (Kd.S_far (p := ⟨gb275, 0, none⟩) (Kd.S_types HO274.out BK275.out (by decide)) (fun _ hk => hk.2) (.slice none 0 0)) (fun _ hk => hk.2) (.int .i64 0)) (fun _ hk => hk.2) (.slice Ao12 y272.length co12)) (fun _ h_ => h_.1)))); (case side4 => exact (Kd.S_reads' HO274.out).2.1); rintro e w15 ⟨v277, rfl, ho0, hb⟩; refine ⟨_, rfl, ?_⟩; have n0_ := Aside0.mk (Kd.S_below (by (with_reducible repeat (first | apply Kd.S_alloc | apply Kd.S_drewN | apply Kd.S_drew)); exact (Kd.S_mono (Kd.S_far (p := ⟨gb275, 2, none⟩) (Kd.S_far (p := ⟨gb275, 1, none⟩) (Kd.S_far (p := ⟨gb275, 0, none⟩) (Kd.S_types HO274.out BK275.out (by decide)) (fun _ hk => hk.2) (.slice none 0 0)) (fun _ hk => hk.2) (.int .i64 0)) (fun _ hk => hk.2) (.slice Ao12 y272.length co12)) (fun _ h_ => h_.1))) hb); have n1_ := Aside0.mk (Kd.R_lower ho0 (below_size (by repeat (first | (with_reducible first | exact HB.out | apply below_alloc | apply pw_below_drewN | apply below_drew1 | refine below_set ?_ GE275.out) | exact HB.out)))); have n2_ := Aside0.mk (blk_below (g := gb275) (o := .cells #[.slice none 0 0, .int .i64 0, .slice Ao12 y272.length co12] 25 (0, 0)) (by (with_reducible repeat (first | refine blk_drewN ?_ _ | refine blk_drew ?_ | refine blk_alloc ?_ _)); refine blk_put (cs := #[.slice none 0 0, .int .i64 0, .slice none 0 0]) ?_ 2 _ rfl; (with_reducible repeat (first | refine blk_drewN ?_ _ | refine blk_drew ?_ | refine blk_alloc ?_ _)); refine blk_put (cs := #[.slice none 0 0, .int .i64 0, .slice none 0 0]) ?_ 1 _ rfl; (with_reducible repeat (first | refine blk_drewN ?_ _ | refine blk_drew ?_ | refine blk_alloc ?_ _)); refine blk_put (cs := #[.slice none 0 0, .int .i64 0, .slice none 0 0]) ?_ 0 _ rfl; (with_reducible repeat (first | refine blk_drewN ?_ _ | refine blk_drew ?_ | refine blk_alloc ?_ _)); exact BK275.out) hb); have n3_ := Aside0.mk (below_step (by repeat (first | (with_reducible first | exact HB.out | apply below_alloc | apply pw_below_drewN | apply below_drew1 | refine below_set ?_ GE275.out) | exact HB.out)) hb); clear HO274; clear BK275; clear HB; have HO274 := n0_; have HO278 := n1_; have BK275 := n2_; have HB := n3_; clear n0_ n1_ n2_ n3_; (try clear hb); (try clear hb2); (try clear hk); (try clear hi); (try clear ho0); have hcz16_0 : w15.cell? ⟨gb275, 0, none⟩ = some (.slice none 0 0) := (blk_cell BK275.out 0).trans rfl; have hcz16_1 : w15.cell? ⟨gb275, 1, none⟩ = some (.int .i64 0) := (blk_cell BK275.out 1).trans rfl; have hcz16_2 : w15.cell? ⟨gb275, 2, none⟩ = some (.slice Ao12 y272.length co12) := (blk_cell BK275.out 2).trans rfl; have hfz16_0 := blk_frozen BK275.out 0; have hfz16_1 := blk_frozen BK275.out 1; have hfz16_2 := blk_frozen BK275.out 2) | ((with_reducible refine gate_callee (f := 51) rfl ?_); refine goesL_ (some 20) rfl rfl Try.func51 (by kernel_rfl) rfl #[.agg #[.slice none 0 0, .int .i64 0, .slice Ao12 y272.length co12]] rfl (by (try simp only [List.map_toArray, List.map_cons, List.map_nil]); first | done | rfl | (simp only [List.length_drop, List.length_take]; rfl)) ?_; (refine (flow_Dom.calls _ _ ([] : List Bool) 0 _ _ y272 t280 t283 _ ?side1 ?side2 ?side3 ?side4 A2.out).mono ?_); (case side1 => exact Kd.C_nil _ _); (case side2 => exact Nat.le_refl _); (case side3 => repeat (first | exact (Kd.S_reads' HO274.out).2.2 | (with_reducible refine Kd.C_alloc ?_ _) | (with_reducible refine Kd.C_drewN ?_ _) | (with_reducible refine Kd.C_drew ?_))); (case side4 => exact (Kd.S_reads' HO274.out).2.1); rintro e w17 ⟨v281, rfl, ho0, hb⟩; refine ⟨_, rfl, ?_⟩; have n0_ := Aside0.mk (Kd.S_below (by (with_reducible repeat (first | apply Kd.S_alloc | apply Kd.S_drewN | apply Kd.S_drew)); exact HO274.out) hb); have n1_ := Aside0.mk (Kd.R_below (by (with_reducible repeat (first | apply Kd.R_alloc | apply Kd.R_drewN | apply Kd.R_drew)); exact HO278.out) hb); have n2_ := Aside0.mk (Kd.R_lower ho0 (below_size (by repeat (first | (with_reducible first | exact HB.out | apply below_alloc | apply pw_below_drewN | apply below_drew1 | refine below_set ?_ GE275.out) | exact HB.out)))); have n3_ := Aside0.mk (blk_below (g := gb275) (o := .cells #[.slice none 0 0, .int .i64 0, .slice Ao12 y272.length co12] 25 (0, 0)) (by (with_reducible repeat (first | refine blk_drewN ?_ _ | refine blk_drew ?_ | refine blk_alloc ?_ _)); exact BK275.out) hb); have n4_ := Aside0.mk (below_step (by repeat (first | (with_reducible first | exact HB.out | apply below_alloc | apply pw_below_drewN | apply below_drew1 | refine below_set ?_ GE275.out) | exact HB.out)) hb); clear HO274; clear HO278; clear BK275; clear HB; have HO274 := n0_; have HO278 := n1_; have HO282 := n2_; have BK275 := n3_; have HB := n4_; clear n0_ n1_ n2_ n3_ n4_; (try clear hb); (try clear hb2); (try clear hk); (try clear hi); (try clear ho0)) | ((with_reducible refine gate_callee (f := 50) rfl ?_); refine goesL_ (some 25) rfl rfl Try.func50 (by kernel_rfl) rfl #[.agg #[.slice none 0 0, .int .i64 0, .slice none 0 0]] rfl (by (try simp only [List.map_toArray, List.map_cons, List.map_nil]); first | done | rfl | (simp only [List.length_drop, List.length_take]; rfl)) ?_; (refine (flow_Ahead.calls _ _ ([] : List Bool) 0 _ _ ([] : List (S36)) t284 t287 _ ?side1 ?side2 ?side3 ?side4 A3.out).mono ?_); (case side1 => exact Kd.C_nil _ _); (case side2 => exact Nat.le_refl _); (case side3 => exact Kd.C_nil _ _); (case side4 => exact Nat.le_refl _); rintro e w18 ⟨v285, rfl, ho0, hb⟩; refine ⟨_, rfl, ?_⟩; have n0_ := Aside0.mk (Kd.S_below (by (with_reducible repeat (first | apply Kd.S_alloc | apply Kd.S_drewN | apply Kd.S_drew)); exact HO274.out) hb); have n1_ := Aside0.mk (Kd.R_below (by (with_reducible repeat (first | apply Kd.R_alloc | apply Kd.R_drewN | apply Kd.R_drew)); exact HO278.out) hb); have n2_ := Aside0.mk (Kd.R_below (by (with_reducible repeat (first | apply Kd.R_alloc | apply Kd.R_drewN | apply Kd.R_drew)); exact HO282.out) hb); have n3_ := Aside0.mk (Kd.S_lower (Kd.S_new' ho0 (Kd.R_lt (by (with_reducible repeat (first | apply Kd.R_alloc | apply Kd.R_drewN | apply Kd.R_drew)); exact HO282.out))) (below_size (by repeat (first | (with_reducible first | exact HB.out | apply below_alloc | apply pw_below_drewN | apply below_drew1 | refine below_set ?_ GE275.out) | exact HB.out)))); have n4_ := Aside0.mk (blk_below (g := gb275) (o := .cells #[.slice none 0 0, .int .i64 0, .slice Ao12 y272.length co12] 25 (0, 0)) (by (with_reducible repeat (first | refine blk_drewN ?_ _ | refine blk_drew ?_ | refine blk_alloc ?_ _)); exact BK275.out) hb); have n5_ := Aside0.mk (below_step (by repeat (first | (with_reducible first | exact HB.out | apply below_alloc | apply pw_below_drewN | apply below_drew1 | refine below_set ?_ GE275.out) | exact HB.out)) hb); clear HO274; clear HO278; clear HO282; clear BK275; clear HB; have HO274 := n0_; have HO278 := n1_; have HO282 := n2_; have HO286 := n3_; have BK275 := n4_; have HB := n5_; clear n0_ n1_ n2_ n3_ n4_ n5_; (try clear hb); (try clear hb2); (try clear hk); (try clear hi); (try clear ho0)) | ((with_reducible refine gate_dst (N := 40) rfl ?_); (try (refine gate_guard (by rfl) ?_; dsimp only)); refine Kd.R_lit Kd.bool _ 4 ?hg (N := 40) ?hd (xs := ([true, true, false] : List Bool)) (inner := [.bool true, .bool true, .bool false]) (ok := fun _ => True) (okp := fun _ => True) ?hr ?hp (fun _ hk => hk) trivial (Below.refl _ _) (Nat.le_refl _) (by simp) ?_; (case hd => rfl); (case hg => rfl); (case hr => first | (go_simp; done) | (go_simp; rfl)); (case hp => exact (Reps.one (show Kd.M Kd.bool _ _ _ true [.bool true] from rfl) (Reps.one (show Kd.M Kd.bool _ _ _ true [.bool true] from rfl) (Reps.one (show Kd.M Kd.bool _ _ _ false [.bool false] from rfl) (Reps.none _ _))))); intro v289 w19 ho20 hb hg_ hnew_; clear hg_ hnew_; (first | rw [← Ny288.out] at ho20 | (simp only [Int.reduceToNat] at ho20; rw [← Ny288.out] at ho20)); have n0_ := Aside0.mk (Kd.S_below (by (with_reducible repeat (first | apply Kd.S_alloc | apply Kd.S_drewN | apply Kd.S_drew)); exact HO274.out) hb); have n1_ := Aside0.mk (Kd.R_elder' (by (with_reducible repeat (first | apply Kd.R_alloc | apply Kd.R_drewN | apply Kd.R_drew)); exact HO278.out) (Kd.R_base ho20) hb); have n2_ := Aside0.mk (Kd.R_below (by (with_reducible repeat (first | apply Kd.R_alloc | apply Kd.R_drewN | apply Kd.R_drew)); exact HO282.out) hb); have n3_ := Aside0.mk (Kd.S_below (by (with_reducible repeat (first | apply Kd.S_alloc | apply Kd.S_drewN | apply Kd.S_drew)); exact HO286.out) hb); have n4_ := Aside0.mk (Kd.R_lower (Kd.R_new' ho20 (Kd.R_lt (by (with_reducible repeat (first | apply Kd.R_alloc | apply Kd.R_drewN | apply Kd.R_drew)); exact HO278.out))) (below_size (by repeat (first | (with_reducible first | exact HB.out | apply below_alloc | apply pw_below_drewN | apply below_drew1 | refine below_set ?_ GE275.out) | exact HB.out)))); have n5_ := Aside0.mk (blk_below (g := gb275) (o := .cells #[.slice none 0 0, .int .i64 0, .slice Ao12 y272.length co12] 25 (0, 0)) (by (with_reducible repeat (first | refine blk_drewN ?_ _ | refine blk_drew ?_ | refine blk_alloc ?_ _)); exact BK275.out) hb); have n6_ := Aside0.mk (below_step (by repeat (first | (with_reducible first | exact HB.out | apply below_alloc | apply pw_below_drewN | apply below_drew1 | refine below_set ?_ GE275.out) | exact HB.out)) hb); clear HO274; clear HO278; clear HO282; clear HO286; clear BK275; clear HB; have HO274 := n0_; have HO278 := n1_; have HO282 := n2_; have HO286 := n3_; have HO290 := n4_; have BK275 := n5_; have HB := n6_; clear n0_ n1_ n2_ n3_ n4_ n5_ n6_; clear hb ho20; obtain ⟨Ao21, co21, eo21⟩ := Kd.R_slice HO278.out; subst eo21; obtain ⟨Ao22, co22, eo22⟩ := Kd.R_slice HO290.out; subst eo22) | (go_at_call 88; (with_reducible refine (turnstilelaw01_SameFlags.calls k _ _ t276 _ _ y288 true _ ?side1 ?side2 ?side3 ?side4 A7.out).mono ?_); (case side1 => repeat (first | exact (Kd.R_reads' HO278.out).2.2 | (with_reducible refine Kd.C_alloc ?_ _) | (with_reducible refine Kd.C_drewN ?_ _) | (with_reducible refine Kd.C_drew ?_))); (case side2 => exact (Kd.R_reads' HO278.out).2.1); (case side3 => repeat (first | exact (Kd.R_reads' HO290.out).2.2 | (with_reducible refine Kd.C_alloc ?_ _) | (with_reducible refine Kd.C_drewN ?_ _) | (with_reducible refine Kd.C_drew ?_))); (case side4 => exact (Kd.R_reads' HO290.out).2.1); rintro e w' ⟨rfl, ⟨nd, rfl⟩⟩) | ((with_reducible refine gate_dst (N := 45) rfl ?_); (try (refine gate_guard (by rfl) ?_; dsimp only)); refine Kd.R_lit (Kd.int .i64) _ 3 ?hg (N := 45) ?hd (xs := ([(-1), 0, (-1)] : List Int)) (inner := [.int .i64 (-1), .int .i64 0, .int .i64 (-1)]) (ok := fun _ => True) (okp := fun _ => True) ?hr ?hp (fun _ hk => hk) trivial (Below.refl _ _) (Nat.le_refl _) (by simp) ?_; (case hd => rfl); (case hg => rfl); (case hr => first | (go_simp; done) | (go_simp; rfl)); (case hp => exact (Reps.one (show Kd.M (Kd.int .i64) _ _ _ (-1) [.int .i64 (-1)] from rfl) (Reps.one (show Kd.M (Kd.int .i64) _ _ _ 0 [.int .i64 0] from rfl) (Reps.one (show Kd.M (Kd.int .i64) _ _ _ (-1) [.int .i64 (-1)] from rfl) (Reps.none _ _))))); intro v293 w23 ho24 hb hg_ hnew_; clear hg_ hnew_; (first | rw [← Ny292.out] at ho24 | (simp only [Int.reduceToNat] at ho24; rw [← Ny292.out] at ho24)); have n0_ := Aside0.mk (Kd.S_below (by (with_reducible repeat (first | apply Kd.S_alloc | apply Kd.S_drewN | apply Kd.S_drew)); exact HO274.out) hb); have n1_ := Aside0.mk (Kd.R_below (by (with_reducible repeat (first | apply Kd.R_alloc | apply Kd.R_drewN | apply Kd.R_drew)); exact HO278.out) hb); have n2_ := Aside0.mk (Kd.R_elder' (by (with_reducible repeat (first | apply Kd.R_alloc | apply Kd.R_drewN | apply Kd.R_drew)); exact HO282.out) (Kd.R_base ho24) hb); have n3_ := Aside0.mk (Kd.S_elder' (by (with_reducible repeat (first | apply Kd.S_alloc | apply Kd.S_drewN | apply Kd.S_drew)); exact HO286.out) (Kd.R_base ho24) hb); have n4_ := Aside0.mk (Kd.R_below (by (with_reducible repeat (first | apply Kd.R_alloc | apply Kd.R_drewN | apply Kd.R_drew)); exact HO290.out) hb); have n5_ := Aside0.mk (Kd.R_lower (Kd.R_new' ho24 (Kd.R_lt (by (with_reducible repeat (first | apply Kd.R_alloc | apply Kd.R_drewN | apply Kd.R_drew)); exact HO282.out))) (below_size (by repeat (first | (with_reducible first | exact HB.out | apply below_alloc | apply pw_below_drewN | apply below_drew1 | refine below_set ?_ GE275.out) | exact HB.out)))); have n6_ := Aside0.mk (blk_below (g := gb275) (o := .cells #[.slice none 0 0, .int .i64 0, .slice Ao12 y272.length co12] 25 (0, 0)) (by (with_reducible repeat (first | refine blk_drewN ?_ _ | refine blk_drew ?_ | refine blk_alloc ?_ _)); exact BK275.out) hb); have n7_ := Aside0.mk (below_step (by repeat (first | (with_reducible first | exact HB.out | apply below_alloc | apply pw_below_drewN | apply below_drew1 | refine below_set ?_ GE275.out) | exact HB.out)) hb); clear HO274; clear HO278; clear HO282; clear HO286; clear HO290; clear BK275; clear HB; have HO274 := n0_; have HO278 := n1_; have HO282 := n2_; have HO286 := n3_; have HO290 := n4_; have HO294 := n5_; have BK275 := n6_; have HB := n7_; clear n0_ n1_ n2_ n3_ n4_ n5_ n6_ n7_; clear hb ho24; obtain ⟨Ao25, co25, eo25⟩ := Kd.R_slice HO282.out; subst eo25; obtain ⟨Ao26, co26, eo26⟩ := Kd.R_slice HO294.out; subst eo26) | (go_at_call 21; (with_reducible refine (turnstilelaw01_SameNumbers.calls k _ _ t280 _ _ y292 t295 _ ?side1 ?side2 ?side3 ?side4 A9.out).mono ?_); (case side1 => repeat (first | exact (Kd.R_reads' HO282.out).2.2 | (with_reducible refine Kd.C_alloc ?_ _) | (with_reducible refine Kd.C_drewN ?_ _) | (with_reducible refine Kd.C_drew ?_))); (case side2 => exact (Kd.R_reads' HO282.out).2.1); (case side3 => repeat (first | exact (Kd.R_reads' HO294.out).2.2 | (with_reducible refine Kd.C_alloc ?_ _) | (with_reducible refine Kd.C_drewN ?_ _) | (with_reducible refine Kd.C_drew ?_))); (case side4 => exact (Kd.R_reads' HO294.out).2.1); rintro e w' ⟨rfl, ⟨nd, rfl⟩⟩))
          go_ret
          exact ⟨by first | rfl | (simp [errW_none, errW_some] <;> rfl) | (simp [*, errW_none, errW_some] <;> rfl), by repeat (first | (with_reducible first | exact HB.out | apply below_alloc | apply pw_below_drewN | apply below_drew1 | refine below_set ?_ GE275.out) | exact HB.out)⟩
        · replace c8 := Bool.eq_false_iff.mpr c8
          subst c8
          have H1 : (some false) = some r := by rw [if_neg (show ¬ (false = true) by decide)] at H; exact H
          clear H
          have H := H1
          clear H1
          obtain rfl := Option.some.inj H
          go_enter Try.func52, Try.ntmps52
          go_wp2_with (first | ((with_reducible refine gate_dst (N := 11) rfl ?_); (try (refine gate_guard (by rfl) ?_; dsimp only)); refine Kd.S_lit k36 _ 36 ?hg (N := 11) ?hd (xs := ([(⟨([] : List (S46)), 1, 0, 1, 0⟩ : S36), (⟨([] : List (S46)), 3, 0, 0, 0⟩ : S36), (⟨([] : List (S46)), 3, 0, 0, 0⟩ : S36)] : List (S36))) (inner := [.slice none 0 0, .int .u8 1, .int .i64 0, .int .i64 1, .int .i64 0, .slice none 0 0, .int .u8 3, .int .i64 0, .int .i64 0, .int .i64 0, .slice none 0 0, .int .u8 3, .int .i64 0, .int .i64 0, .int .i64 0]) (ok := fun _ => True) (okp := fun _ => True) ?hr ?hp (fun _ hk => hk) trivial (Below.refl _ _) (Nat.le_refl _) (by simp) ?_; (case hd => rfl); (case hg => rfl); (case hr => first | (go_simp; done) | (go_simp; rfl)); (case hp => exact (Reps.c5 (show Kd.M k36 _ _ _ (⟨([] : List (S46)), 1, 0, 1, 0⟩ : S36) [.slice none 0 0, .int .u8 1, .int .i64 0, .int .i64 1, .int .i64 0] from (k36_mkM _ _ _ (⟨([] : List (S46)), 1, 0, 1, 0⟩ : S36) (Kd.R_nil _ _ _ _ _))) (Reps.c5 (show Kd.M k36 _ _ _ (⟨([] : List (S46)), 3, 0, 0, 0⟩ : S36) [.slice none 0 0, .int .u8 3, .int .i64 0, .int .i64 0, .int .i64 0] from (k36_mkM _ _ _ (⟨([] : List (S46)), 3, 0, 0, 0⟩ : S36) (Kd.R_nil _ _ _ _ _))) (Reps.c5 (show Kd.M k36 _ _ _ (⟨([] : List (S46)), 3, 0, 0, 0⟩ : S36) [.slice none 0 0, .int .u8 3, .int .i64 0, .int .i64 0, .int .i64 0] from (k36_mkM _ _ _ (⟨([] : List (S46)), 3, 0, 0, 0⟩ : S36) (Kd.R_nil _ _ _ _ _))) (Reps.none _ _))))); intro v273 w27 ho28 hb hg_ hnew_; clear hg_ hnew_; (first | rw [← Ny272.out] at ho28 | (simp only [Int.reduceToNat] at ho28; rw [← Ny272.out] at ho28)); have n0_ := Aside0.mk (Kd.S_lower ho28 (below_size (by repeat (first | (with_reducible first | exact HB.out | apply below_alloc | apply pw_below_drewN | apply below_drew1) | exact HB.out)))); have n1_ := Aside0.mk (below_step (by repeat (first | (with_reducible first | exact HB.out | apply below_alloc | apply pw_below_drewN | apply below_drew1) | exact HB.out)) hb); clear HB; have HO274 := n0_; have HB := n1_; clear n0_ n1_; clear hb ho28; obtain ⟨Ao29, co29, eo29⟩ := Kd.S_slice HO274.out; subst eo29) | ((with_reducible refine gate_dst (N := 1) rfl ?_); (try (refine gate_guard (by rfl) ?_; dsimp only)); refine box_event ?hg (N := 1) ?hd (cs := #[.slice none 0 0, .int .i64 0, .slice none 0 0]) (t := 25) ?hr ?_; (case hd => rfl); (case hg => rfl); (case hr => first | (go_simp; done) | (go_simp; rfl)); intro gb275 hg w30 hbox hb; have n0_ := Aside0.mk (Kd.S_below (by (with_reducible repeat (first | apply Kd.S_alloc | apply Kd.S_drewN | apply Kd.S_drew)); exact HO274.out) hb); have n1_ := Aside0.mk (below_step (by repeat (first | (with_reducible first | exact HB.out | apply below_alloc | apply pw_below_drewN | apply below_drew1) | exact HB.out)) hb); have n2_ := Aside0.mk (hbox); have n3_ := Aside0.mk ((by rw [hg]; exact (below_size (by repeat (first | (with_reducible first | exact HB.out | apply below_alloc | apply pw_below_drewN | apply below_drew1) | exact HB.out))) : w.heap.size ≤ gb275)); have n4_ := Aside0.mk ((by rw [hg]; exact (below_size (by repeat (first | (with_reducible first | exact HB.out | apply below_alloc | apply pw_below_drewN | apply below_drew1) | exact HB.out))) : w.heap.size ≤ gb275)); clear HO274; clear HB; have HO274 := n0_; have HB := n1_; have BK275 := n2_; have GW275 := n3_; have GE275 := n4_; clear n0_ n1_ n2_ n3_ n4_; clear hb hbox hg; have hcz31_0 : w30.cell? ⟨gb275, 0, none⟩ = some (.slice none 0 0) := (blk_cell BK275.out 0).trans rfl; have hcz31_1 : w30.cell? ⟨gb275, 1, none⟩ = some (.int .i64 0) := (blk_cell BK275.out 1).trans rfl; have hcz31_2 : w30.cell? ⟨gb275, 2, none⟩ = some (.slice none 0 0) := (blk_cell BK275.out 2).trans rfl; have hfz31_0 := blk_frozen BK275.out 0; have hfz31_1 := blk_frozen BK275.out 1; have hfz31_2 := blk_frozen BK275.out 2) | ((with_reducible refine gate_callee (f := 49) rfl ?_); refine goesL_ (some 15) rfl rfl Try.func49 (by kernel_rfl) rfl #[.agg #[.slice none 0 0, .int .i64 0, .slice Ao29 y272.length co29]] rfl (by (try simp only [List.map_toArray, List.map_cons, List.map_nil]); first | done | rfl | (simp only [List.length_drop, List.length_take]; rfl)) ?_; (refine (flow_Reach.calls k _ _ ([] : List Bool) 0 _ _ y272 t276 t279 _ ?side1 ?side2 ?side3 ?side4 A1.out).mono ?_); (case side1 => exact Kd.C_nil _ _); (case side2 => exact Nat.le_refl _); (case side3 => refine (Kd.S_reads' (e := 36) (base := w.heap.size) (ok := fun k_ => True) (n := y272.length) (c := co29) ?_).2.2; exact (by (with_reducible repeat (first | apply Kd.S_alloc | apply Kd.S_drewN | apply Kd.S_drew)); exact (Kd.S_mono (Kd.S_far (p := ⟨gb275, 2, none⟩) (Kd.S_far (p := ⟨gb275, 1, none⟩) (Kd.S_far (p := ⟨gb275, 0, none⟩) (Kd.S_types HO274.out BK275.out (by decide)) (fun _ hk => hk.2) (.slice none 0 0)) (fun _ hk => hk.2) (.int .i64 0)) (fun _ hk => hk.2) (.slice Ao29 y272.length co29)) (fun _ h_ => h_.1)))); (case side4 => exact (Kd.S_reads' HO274.out).2.1); rintro e w32 ⟨v277, rfl, ho0, hb⟩; refine ⟨_, rfl, ?_⟩; have n0_ := Aside0.mk (Kd.S_below (by (with_reducible repeat (first | apply Kd.S_alloc | apply Kd.S_drewN | apply Kd.S_drew)); exact (Kd.S_mono (Kd.S_far (p := ⟨gb275, 2, none⟩) (Kd.S_far (p := ⟨gb275, 1, none⟩) (Kd.S_far (p := ⟨gb275, 0, none⟩) (Kd.S_types HO274.out BK275.out (by decide)) (fun _ hk => hk.2) (.slice none 0 0)) (fun _ hk => hk.2) (.int .i64 0)) (fun _ hk => hk.2) (.slice Ao29 y272.length co29)) (fun _ h_ => h_.1))) hb); have n1_ := Aside0.mk (Kd.R_lower ho0 (below_size (by repeat (first | (with_reducible first | exact HB.out | apply below_alloc | apply pw_below_drewN | apply below_drew1 | refine below_set ?_ GE275.out) | exact HB.out)))); have n2_ := Aside0.mk (blk_below (g := gb275) (o := .cells #[.slice none 0 0, .int .i64 0, .slice Ao29 y272.length co29] 25 (0, 0)) (by (with_reducible repeat (first | refine blk_drewN ?_ _ | refine blk_drew ?_ | refine blk_alloc ?_ _)); refine blk_put (cs := #[.slice none 0 0, .int .i64 0, .slice none 0 0]) ?_ 2 _ rfl; (with_reducible repeat (first | refine blk_drewN ?_ _ | refine blk_drew ?_ | refine blk_alloc ?_ _)); refine blk_put (cs := #[.slice none 0 0, .int .i64 0, .slice none 0 0]) ?_ 1 _ rfl; (with_reducible repeat (first | refine blk_drewN ?_ _ | refine blk_drew ?_ | refine blk_alloc ?_ _)); refine blk_put (cs := #[.slice none 0 0, .int .i64 0, .slice none 0 0]) ?_ 0 _ rfl; (with_reducible repeat (first | refine blk_drewN ?_ _ | refine blk_drew ?_ | refine blk_alloc ?_ _)); exact BK275.out) hb); have n3_ := Aside0.mk (below_step (by repeat (first | (with_reducible first | exact HB.out | apply below_alloc | apply pw_below_drewN | apply below_drew1 | refine below_set ?_ GE275.out) | exact HB.out)) hb); clear HO274; clear BK275; clear HB; have HO274 := n0_; have HO278 := n1_; have BK275 := n2_; have HB := n3_; clear n0_ n1_ n2_ n3_; (try clear hb); (try clear hb2); (try clear hk); (try clear hi); (try clear ho0); have hcz33_0 : w32.cell? ⟨gb275, 0, none⟩ = some (.slice none 0 0) := (blk_cell BK275.out 0).trans rfl; have hcz33_1 : w32.cell? ⟨gb275, 1, none⟩ = some (.int .i64 0) := (blk_cell BK275.out 1).trans rfl; have hcz33_2 : w32.cell? ⟨gb275, 2, none⟩ = some (.slice Ao29 y272.length co29) := (blk_cell BK275.out 2).trans rfl; have hfz33_0 := blk_frozen BK275.out 0; have hfz33_1 := blk_frozen BK275.out 1; have hfz33_2 := blk_frozen BK275.out 2) | ((with_reducible refine gate_callee (f := 51) rfl ?_); refine goesL_ (some 20) rfl rfl Try.func51 (by kernel_rfl) rfl #[.agg #[.slice none 0 0, .int .i64 0, .slice Ao29 y272.length co29]] rfl (by (try simp only [List.map_toArray, List.map_cons, List.map_nil]); first | done | rfl | (simp only [List.length_drop, List.length_take]; rfl)) ?_; (refine (flow_Dom.calls _ _ ([] : List Bool) 0 _ _ y272 t280 t283 _ ?side1 ?side2 ?side3 ?side4 A2.out).mono ?_); (case side1 => exact Kd.C_nil _ _); (case side2 => exact Nat.le_refl _); (case side3 => repeat (first | exact (Kd.S_reads' HO274.out).2.2 | (with_reducible refine Kd.C_alloc ?_ _) | (with_reducible refine Kd.C_drewN ?_ _) | (with_reducible refine Kd.C_drew ?_))); (case side4 => exact (Kd.S_reads' HO274.out).2.1); rintro e w34 ⟨v281, rfl, ho0, hb⟩; refine ⟨_, rfl, ?_⟩; have n0_ := Aside0.mk (Kd.S_below (by (with_reducible repeat (first | apply Kd.S_alloc | apply Kd.S_drewN | apply Kd.S_drew)); exact HO274.out) hb); have n1_ := Aside0.mk (Kd.R_below (by (with_reducible repeat (first | apply Kd.R_alloc | apply Kd.R_drewN | apply Kd.R_drew)); exact HO278.out) hb); have n2_ := Aside0.mk (Kd.R_lower ho0 (below_size (by repeat (first | (with_reducible first | exact HB.out | apply below_alloc | apply pw_below_drewN | apply below_drew1 | refine below_set ?_ GE275.out) | exact HB.out)))); have n3_ := Aside0.mk (blk_below (g := gb275) (o := .cells #[.slice none 0 0, .int .i64 0, .slice Ao29 y272.length co29] 25 (0, 0)) (by (with_reducible repeat (first | refine blk_drewN ?_ _ | refine blk_drew ?_ | refine blk_alloc ?_ _)); exact BK275.out) hb); have n4_ := Aside0.mk (below_step (by repeat (first | (with_reducible first | exact HB.out | apply below_alloc | apply pw_below_drewN | apply below_drew1 | refine below_set ?_ GE275.out) | exact HB.out)) hb); clear HO274; clear HO278; clear BK275; clear HB; have HO274 := n0_; have HO278 := n1_; have HO282 := n2_; have BK275 := n3_; have HB := n4_; clear n0_ n1_ n2_ n3_ n4_; (try clear hb); (try clear hb2); (try clear hk); (try clear hi); (try clear ho0)) | ((with_reducible refine gate_callee (f := 50) rfl ?_); refine goesL_ (some 25) rfl rfl Try.func50 (by kernel_rfl) rfl #[.agg #[.slice none 0 0, .int .i64 0, .slice none 0 0]] rfl (by (try simp only [List.map_toArray, List.map_cons, List.map_nil]); first | done | rfl | (simp only [List.length_drop, List.length_take]; rfl)) ?_; (refine (flow_Ahead.calls _ _ ([] : List Bool) 0 _ _ ([] : List (S36)) t284 t287 _ ?side1 ?side2 ?side3 ?side4 A3.out).mono ?_); (case side1 => exact Kd.C_nil _ _); (case side2 => exact Nat.le_refl _); (case side3 => exact Kd.C_nil _ _); (case side4 => exact Nat.le_refl _); rintro e w35 ⟨v285, rfl, ho0, hb⟩; refine ⟨_, rfl, ?_⟩; have n0_ := Aside0.mk (Kd.S_below (by (with_reducible repeat (first | apply Kd.S_alloc | apply Kd.S_drewN | apply Kd.S_drew)); exact HO274.out) hb); have n1_ := Aside0.mk (Kd.R_below (by (with_reducible repeat (first | apply Kd.R_alloc | apply Kd.R_drewN | apply Kd.R_drew)); exact HO278.out) hb); have n2_ := Aside0.mk (Kd.R_below (by (with_reducible repeat (first | apply Kd.R_alloc | apply Kd.R_drewN | apply Kd.R_drew)); exact HO282.out) hb); have n3_ := Aside0.mk (Kd.S_lower (Kd.S_new' ho0 (Kd.R_lt (by (with_reducible repeat (first | apply Kd.R_alloc | apply Kd.R_drewN | apply Kd.R_drew)); exact HO282.out))) (below_size (by repeat (first | (with_reducible first | exact HB.out | apply below_alloc | apply pw_below_drewN | apply below_drew1 | refine below_set ?_ GE275.out) | exact HB.out)))); have n4_ := Aside0.mk (blk_below (g := gb275) (o := .cells #[.slice none 0 0, .int .i64 0, .slice Ao29 y272.length co29] 25 (0, 0)) (by (with_reducible repeat (first | refine blk_drewN ?_ _ | refine blk_drew ?_ | refine blk_alloc ?_ _)); exact BK275.out) hb); have n5_ := Aside0.mk (below_step (by repeat (first | (with_reducible first | exact HB.out | apply below_alloc | apply pw_below_drewN | apply below_drew1 | refine below_set ?_ GE275.out) | exact HB.out)) hb); clear HO274; clear HO278; clear HO282; clear BK275; clear HB; have HO274 := n0_; have HO278 := n1_; have HO282 := n2_; have HO286 := n3_; have BK275 := n4_; have HB := n5_; clear n0_ n1_ n2_ n3_ n4_ n5_; (try clear hb); (try clear hb2); (try clear hk); (try clear hi); (try clear ho0)) | ((with_reducible refine gate_dst (N := 40) rfl ?_); (try (refine gate_guard (by rfl) ?_; dsimp only)); refine Kd.R_lit Kd.bool _ 4 ?hg (N := 40) ?hd (xs := ([true, true, false] : List Bool)) (inner := [.bool true, .bool true, .bool false]) (ok := fun _ => True) (okp := fun _ => True) ?hr ?hp (fun _ hk => hk) trivial (Below.refl _ _) (Nat.le_refl _) (by simp) ?_; (case hd => rfl); (case hg => rfl); (case hr => first | (go_simp; done) | (go_simp; rfl)); (case hp => exact (Reps.one (show Kd.M Kd.bool _ _ _ true [.bool true] from rfl) (Reps.one (show Kd.M Kd.bool _ _ _ true [.bool true] from rfl) (Reps.one (show Kd.M Kd.bool _ _ _ false [.bool false] from rfl) (Reps.none _ _))))); intro v289 w36 ho37 hb hg_ hnew_; clear hg_ hnew_; (first | rw [← Ny288.out] at ho37 | (simp only [Int.reduceToNat] at ho37; rw [← Ny288.out] at ho37)); have n0_ := Aside0.mk (Kd.S_below (by (with_reducible repeat (first | apply Kd.S_alloc | apply Kd.S_drewN | apply Kd.S_drew)); exact HO274.out) hb); have n1_ := Aside0.mk (Kd.R_elder' (by (with_reducible repeat (first | apply Kd.R_alloc | apply Kd.R_drewN | apply Kd.R_drew)); exact HO278.out) (Kd.R_base ho37) hb); have n2_ := Aside0.mk (Kd.R_below (by (with_reducible repeat (first | apply Kd.R_alloc | apply Kd.R_drewN | apply Kd.R_drew)); exact HO282.out) hb); have n3_ := Aside0.mk (Kd.S_below (by (with_reducible repeat (first | apply Kd.S_alloc | apply Kd.S_drewN | apply Kd.S_drew)); exact HO286.out) hb); have n4_ := Aside0.mk (Kd.R_lower (Kd.R_new' ho37 (Kd.R_lt (by (with_reducible repeat (first | apply Kd.R_alloc | apply Kd.R_drewN | apply Kd.R_drew)); exact HO278.out))) (below_size (by repeat (first | (with_reducible first | exact HB.out | apply below_alloc | apply pw_below_drewN | apply below_drew1 | refine below_set ?_ GE275.out) | exact HB.out)))); have n5_ := Aside0.mk (blk_below (g := gb275) (o := .cells #[.slice none 0 0, .int .i64 0, .slice Ao29 y272.length co29] 25 (0, 0)) (by (with_reducible repeat (first | refine blk_drewN ?_ _ | refine blk_drew ?_ | refine blk_alloc ?_ _)); exact BK275.out) hb); have n6_ := Aside0.mk (below_step (by repeat (first | (with_reducible first | exact HB.out | apply below_alloc | apply pw_below_drewN | apply below_drew1 | refine below_set ?_ GE275.out) | exact HB.out)) hb); clear HO274; clear HO278; clear HO282; clear HO286; clear BK275; clear HB; have HO274 := n0_; have HO278 := n1_; have HO282 := n2_; have HO286 := n3_; have HO290 := n4_; have BK275 := n5_; have HB := n6_; clear n0_ n1_ n2_ n3_ n4_ n5_ n6_; clear hb ho37; obtain ⟨Ao38, co38, eo38⟩ := Kd.R_slice HO278.out; subst eo38; obtain ⟨Ao39, co39, eo39⟩ := Kd.R_slice HO290.out; subst eo39) | (go_at_call 88; (with_reducible refine (turnstilelaw01_SameFlags.calls k _ _ t276 _ _ y288 false _ ?side1 ?side2 ?side3 ?side4 A7.out).mono ?_); (case side1 => repeat (first | exact (Kd.R_reads' HO278.out).2.2 | (with_reducible refine Kd.C_alloc ?_ _) | (with_reducible refine Kd.C_drewN ?_ _) | (with_reducible refine Kd.C_drew ?_))); (case side2 => exact (Kd.R_reads' HO278.out).2.1); (case side3 => repeat (first | exact (Kd.R_reads' HO290.out).2.2 | (with_reducible refine Kd.C_alloc ?_ _) | (with_reducible refine Kd.C_drewN ?_ _) | (with_reducible refine Kd.C_drew ?_))); (case side4 => exact (Kd.R_reads' HO290.out).2.1); rintro e w' ⟨rfl, ⟨nd, rfl⟩⟩))
          go_ret
          exact ⟨by first | rfl | (simp [errW_none, errW_some] <;> rfl) | (simp [*, errW_none, errW_some] <;> rfl), by repeat (first | (with_reducible first | exact HB.out | apply below_alloc | apply pw_below_drewN | apply below_drew1 | refine below_set ?_ GE275.out) | exact HB.out)⟩
      · rw [if_neg c6] at H
        have c6b0 : (t287 == 14) = false := beq_eq_false_iff_ne.mpr c6
        have c6b1 : (t287 != 14) = true := bne_iff_ne.mpr c6
        obtain rfl := Option.some.inj H
        go_enter Try.func52, Try.ntmps52
        go_wp2_with (first | ((with_reducible refine gate_dst (N := 11) rfl ?_); (try (refine gate_guard (by rfl) ?_; dsimp only)); refine Kd.S_lit k36 _ 36 ?hg (N := 11) ?hd (xs := ([(⟨([] : List (S46)), 1, 0, 1, 0⟩ : S36), (⟨([] : List (S46)), 3, 0, 0, 0⟩ : S36), (⟨([] : List (S46)), 3, 0, 0, 0⟩ : S36)] : List (S36))) (inner := [.slice none 0 0, .int .u8 1, .int .i64 0, .int .i64 1, .int .i64 0, .slice none 0 0, .int .u8 3, .int .i64 0, .int .i64 0, .int .i64 0, .slice none 0 0, .int .u8 3, .int .i64 0, .int .i64 0, .int .i64 0]) (ok := fun _ => True) (okp := fun _ => True) ?hr ?hp (fun _ hk => hk) trivial (Below.refl _ _) (Nat.le_refl _) (by simp) ?_; (case hd => rfl); (case hg => rfl); (case hr => first | (go_simp; done) | (go_simp; rfl)); (case hp => exact (Reps.c5 (show Kd.M k36 _ _ _ (⟨([] : List (S46)), 1, 0, 1, 0⟩ : S36) [.slice none 0 0, .int .u8 1, .int .i64 0, .int .i64 1, .int .i64 0] from (k36_mkM _ _ _ (⟨([] : List (S46)), 1, 0, 1, 0⟩ : S36) (Kd.R_nil _ _ _ _ _))) (Reps.c5 (show Kd.M k36 _ _ _ (⟨([] : List (S46)), 3, 0, 0, 0⟩ : S36) [.slice none 0 0, .int .u8 3, .int .i64 0, .int .i64 0, .int .i64 0] from (k36_mkM _ _ _ (⟨([] : List (S46)), 3, 0, 0, 0⟩ : S36) (Kd.R_nil _ _ _ _ _))) (Reps.c5 (show Kd.M k36 _ _ _ (⟨([] : List (S46)), 3, 0, 0, 0⟩ : S36) [.slice none 0 0, .int .u8 3, .int .i64 0, .int .i64 0, .int .i64 0] from (k36_mkM _ _ _ (⟨([] : List (S46)), 3, 0, 0, 0⟩ : S36) (Kd.R_nil _ _ _ _ _))) (Reps.none _ _))))); intro v273 w40 ho41 hb hg_ hnew_; clear hg_ hnew_; (first | rw [← Ny272.out] at ho41 | (simp only [Int.reduceToNat] at ho41; rw [← Ny272.out] at ho41)); have n0_ := Aside0.mk (Kd.S_lower ho41 (below_size (by repeat (first | (with_reducible first | exact HB.out | apply below_alloc | apply pw_below_drewN | apply below_drew1) | exact HB.out)))); have n1_ := Aside0.mk (below_step (by repeat (first | (with_reducible first | exact HB.out | apply below_alloc | apply pw_below_drewN | apply below_drew1) | exact HB.out)) hb); clear HB; have HO274 := n0_; have HB := n1_; clear n0_ n1_; clear hb ho41; obtain ⟨Ao42, co42, eo42⟩ := Kd.S_slice HO274.out; subst eo42) | ((with_reducible refine gate_dst (N := 1) rfl ?_); (try (refine gate_guard (by rfl) ?_; dsimp only)); refine box_event ?hg (N := 1) ?hd (cs := #[.slice none 0 0, .int .i64 0, .slice none 0 0]) (t := 25) ?hr ?_; (case hd => rfl); (case hg => rfl); (case hr => first | (go_simp; done) | (go_simp; rfl)); intro gb275 hg w43 hbox hb; have n0_ := Aside0.mk (Kd.S_below (by (with_reducible repeat (first | apply Kd.S_alloc | apply Kd.S_drewN | apply Kd.S_drew)); exact HO274.out) hb); have n1_ := Aside0.mk (below_step (by repeat (first | (with_reducible first | exact HB.out | apply below_alloc | apply pw_below_drewN | apply below_drew1) | exact HB.out)) hb); have n2_ := Aside0.mk (hbox); have n3_ := Aside0.mk ((by rw [hg]; exact (below_size (by repeat (first | (with_reducible first | exact HB.out | apply below_alloc | apply pw_below_drewN | apply below_drew1) | exact HB.out))) : w.heap.size ≤ gb275)); have n4_ := Aside0.mk ((by rw [hg]; exact (below_size (by repeat (first | (with_reducible first | exact HB.out | apply below_alloc | apply pw_below_drewN | apply below_drew1) | exact HB.out))) : w.heap.size ≤ gb275)); clear HO274; clear HB; have HO274 := n0_; have HB := n1_; have BK275 := n2_; have GW275 := n3_; have GE275 := n4_; clear n0_ n1_ n2_ n3_ n4_; clear hb hbox hg; have hcz44_0 : w43.cell? ⟨gb275, 0, none⟩ = some (.slice none 0 0) := (blk_cell BK275.out 0).trans rfl; have hcz44_1 : w43.cell? ⟨gb275, 1, none⟩ = some (.int .i64 0) := (blk_cell BK275.out 1).trans rfl; have hcz44_2 : w43.cell? ⟨gb275, 2, none⟩ = some (.slice none 0 0) := (blk_cell BK275.out 2).trans rfl; have hfz44_0 := blk_frozen BK275.out 0; have hfz44_1 := blk_frozen BK275.out 1; have hfz44_2 := blk_frozen BK275.out 2) | ((with_reducible refine gate_callee (f := 49) rfl ?_); refine goesL_ (some 15) rfl rfl Try.func49 (by kernel_rfl) rfl #[.agg #[.slice none 0 0, .int .i64 0, .slice Ao42 y272.length co42]] rfl (by (try simp only [List.map_toArray, List.map_cons, List.map_nil]); first | done | rfl | (simp only [List.length_drop, List.length_take]; rfl)) ?_; (refine (flow_Reach.calls k _ _ ([] : List Bool) 0 _ _ y272 t276 t279 _ ?side1 ?side2 ?side3 ?side4 A1.out).mono ?_); (case side1 => exact Kd.C_nil _ _); (case side2 => exact Nat.le_refl _); (case side3 => refine (Kd.S_reads' (e := 36) (base := w.heap.size) (ok := fun k_ => True) (n := y272.length) (c := co42) ?_).2.2; exact (by (with_reducible repeat (first | apply Kd.S_alloc | apply Kd.S_drewN | apply Kd.S_drew)); exact (Kd.S_mono (Kd.S_far (p := ⟨gb275, 2, none⟩) (Kd.S_far (p := ⟨gb275, 1, none⟩) (Kd.S_far (p := ⟨gb275, 0, none⟩) (Kd.S_types HO274.out BK275.out (by decide)) (fun _ hk => hk.2) (.slice none 0 0)) (fun _ hk => hk.2) (.int .i64 0)) (fun _ hk => hk.2) (.slice Ao42 y272.length co42)) (fun _ h_ => h_.1)))); (case side4 => exact (Kd.S_reads' HO274.out).2.1); rintro e w45 ⟨v277, rfl, ho0, hb⟩; refine ⟨_, rfl, ?_⟩; have n0_ := Aside0.mk (Kd.S_below (by (with_reducible repeat (first | apply Kd.S_alloc | apply Kd.S_drewN | apply Kd.S_drew)); exact (Kd.S_mono (Kd.S_far (p := ⟨gb275, 2, none⟩) (Kd.S_far (p := ⟨gb275, 1, none⟩) (Kd.S_far (p := ⟨gb275, 0, none⟩) (Kd.S_types HO274.out BK275.out (by decide)) (fun _ hk => hk.2) (.slice none 0 0)) (fun _ hk => hk.2) (.int .i64 0)) (fun _ hk => hk.2) (.slice Ao42 y272.length co42)) (fun _ h_ => h_.1))) hb); have n1_ := Aside0.mk (Kd.R_lower ho0 (below_size (by repeat (first | (with_reducible first | exact HB.out | apply below_alloc | apply pw_below_drewN | apply below_drew1 | refine below_set ?_ GE275.out) | exact HB.out)))); have n2_ := Aside0.mk (blk_below (g := gb275) (o := .cells #[.slice none 0 0, .int .i64 0, .slice Ao42 y272.length co42] 25 (0, 0)) (by (with_reducible repeat (first | refine blk_drewN ?_ _ | refine blk_drew ?_ | refine blk_alloc ?_ _)); refine blk_put (cs := #[.slice none 0 0, .int .i64 0, .slice none 0 0]) ?_ 2 _ rfl; (with_reducible repeat (first | refine blk_drewN ?_ _ | refine blk_drew ?_ | refine blk_alloc ?_ _)); refine blk_put (cs := #[.slice none 0 0, .int .i64 0, .slice none 0 0]) ?_ 1 _ rfl; (with_reducible repeat (first | refine blk_drewN ?_ _ | refine blk_drew ?_ | refine blk_alloc ?_ _)); refine blk_put (cs := #[.slice none 0 0, .int .i64 0, .slice none 0 0]) ?_ 0 _ rfl; (with_reducible repeat (first | refine blk_drewN ?_ _ | refine blk_drew ?_ | refine blk_alloc ?_ _)); exact BK275.out) hb); have n3_ := Aside0.mk (below_step (by repeat (first | (with_reducible first | exact HB.out | apply below_alloc | apply pw_below_drewN | apply below_drew1 | refine below_set ?_ GE275.out) | exact HB.out)) hb); clear HO274; clear BK275; clear HB; have HO274 := n0_; have HO278 := n1_; have BK275 := n2_; have HB := n3_; clear n0_ n1_ n2_ n3_; (try clear hb); (try clear hb2); (try clear hk); (try clear hi); (try clear ho0); have hcz46_0 : w45.cell? ⟨gb275, 0, none⟩ = some (.slice none 0 0) := (blk_cell BK275.out 0).trans rfl; have hcz46_1 : w45.cell? ⟨gb275, 1, none⟩ = some (.int .i64 0) := (blk_cell BK275.out 1).trans rfl; have hcz46_2 : w45.cell? ⟨gb275, 2, none⟩ = some (.slice Ao42 y272.length co42) := (blk_cell BK275.out 2).trans rfl; have hfz46_0 := blk_frozen BK275.out 0; have hfz46_1 := blk_frozen BK275.out 1; have hfz46_2 := blk_frozen BK275.out 2) | ((with_reducible refine gate_callee (f := 51) rfl ?_); refine goesL_ (some 20) rfl rfl Try.func51 (by kernel_rfl) rfl #[.agg #[.slice none 0 0, .int .i64 0, .slice Ao42 y272.length co42]] rfl (by (try simp only [List.map_toArray, List.map_cons, List.map_nil]); first | done | rfl | (simp only [List.length_drop, List.length_take]; rfl)) ?_; (refine (flow_Dom.calls _ _ ([] : List Bool) 0 _ _ y272 t280 t283 _ ?side1 ?side2 ?side3 ?side4 A2.out).mono ?_); (case side1 => exact Kd.C_nil _ _); (case side2 => exact Nat.le_refl _); (case side3 => repeat (first | exact (Kd.S_reads' HO274.out).2.2 | (with_reducible refine Kd.C_alloc ?_ _) | (with_reducible refine Kd.C_drewN ?_ _) | (with_reducible refine Kd.C_drew ?_))); (case side4 => exact (Kd.S_reads' HO274.out).2.1); rintro e w47 ⟨v281, rfl, ho0, hb⟩; refine ⟨_, rfl, ?_⟩; have n0_ := Aside0.mk (Kd.S_below (by (with_reducible repeat (first | apply Kd.S_alloc | apply Kd.S_drewN | apply Kd.S_drew)); exact HO274.out) hb); have n1_ := Aside0.mk (Kd.R_below (by (with_reducible repeat (first | apply Kd.R_alloc | apply Kd.R_drewN | apply Kd.R_drew)); exact HO278.out) hb); have n2_ := Aside0.mk (Kd.R_lower ho0 (below_size (by repeat (first | (with_reducible first | exact HB.out | apply below_alloc | apply pw_below_drewN | apply below_drew1 | refine below_set ?_ GE275.out) | exact HB.out)))); have n3_ := Aside0.mk (blk_below (g := gb275) (o := .cells #[.slice none 0 0, .int .i64 0, .slice Ao42 y272.length co42] 25 (0, 0)) (by (with_reducible repeat (first | refine blk_drewN ?_ _ | refine blk_drew ?_ | refine blk_alloc ?_ _)); exact BK275.out) hb); have n4_ := Aside0.mk (below_step (by repeat (first | (with_reducible first | exact HB.out | apply below_alloc | apply pw_below_drewN | apply below_drew1 | refine below_set ?_ GE275.out) | exact HB.out)) hb); clear HO274; clear HO278; clear BK275; clear HB; have HO274 := n0_; have HO278 := n1_; have HO282 := n2_; have BK275 := n3_; have HB := n4_; clear n0_ n1_ n2_ n3_ n4_; (try clear hb); (try clear hb2); (try clear hk); (try clear hi); (try clear ho0)) | ((with_reducible refine gate_callee (f := 50) rfl ?_); refine goesL_ (some 25) rfl rfl Try.func50 (by kernel_rfl) rfl #[.agg #[.slice none 0 0, .int .i64 0, .slice none 0 0]] rfl (by (try simp only [List.map_toArray, List.map_cons, List.map_nil]); first | done | rfl | (simp only [List.length_drop, List.length_take]; rfl)) ?_; (refine (flow_Ahead.calls _ _ ([] : List Bool) 0 _ _ ([] : List (S36)) t284 t287 _ ?side1 ?side2 ?side3 ?side4 A3.out).mono ?_); (case side1 => exact Kd.C_nil _ _); (case side2 => exact Nat.le_refl _); (case side3 => exact Kd.C_nil _ _); (case side4 => exact Nat.le_refl _); rintro e w48 ⟨v285, rfl, ho0, hb⟩; refine ⟨_, rfl, ?_⟩; have n0_ := Aside0.mk (Kd.S_below (by (with_reducible repeat (first | apply Kd.S_alloc | apply Kd.S_drewN | apply Kd.S_drew)); exact HO274.out) hb); have n1_ := Aside0.mk (Kd.R_below (by (with_reducible repeat (first | apply Kd.R_alloc | apply Kd.R_drewN | apply Kd.R_drew)); exact HO278.out) hb); have n2_ := Aside0.mk (Kd.R_below (by (with_reducible repeat (first | apply Kd.R_alloc | apply Kd.R_drewN | apply Kd.R_drew)); exact HO282.out) hb); have n3_ := Aside0.mk (Kd.S_lower (Kd.S_new' ho0 (Kd.R_lt (by (with_reducible repeat (first | apply Kd.R_alloc | apply Kd.R_drewN | apply Kd.R_drew)); exact HO282.out))) (below_size (by repeat (first | (with_reducible first | exact HB.out | apply below_alloc | apply pw_below_drewN | apply below_drew1 | refine below_set ?_ GE275.out) | exact HB.out)))); have n4_ := Aside0.mk (blk_below (g := gb275) (o := .cells #[.slice none 0 0, .int .i64 0, .slice Ao42 y272.length co42] 25 (0, 0)) (by (with_reducible repeat (first | refine blk_drewN ?_ _ | refine blk_drew ?_ | refine blk_alloc ?_ _)); exact BK275.out) hb); have n5_ := Aside0.mk (below_step (by repeat (first | (with_reducible first | exact HB.out | apply below_alloc | apply pw_below_drewN | apply below_drew1 | refine below_set ?_ GE275.out) | exact HB.out)) hb); clear HO274; clear HO278; clear HO282; clear BK275; clear HB; have HO274 := n0_; have HO278 := n1_; have HO282 := n2_; have HO286 := n3_; have BK275 := n4_; have HB := n5_; clear n0_ n1_ n2_ n3_ n4_ n5_; (try clear hb); (try clear hb2); (try clear hk); (try clear hi); (try clear ho0)))
        go_ret
        exact ⟨by first | rfl | (simp [errW_none, errW_some] <;> rfl) | (simp [*, errW_none, errW_some] <;> rfl), by repeat (first | (with_reducible first | exact HB.out | apply below_alloc | apply pw_below_drewN | apply below_drew1 | refine below_set ?_ GE275.out) | exact HB.out)⟩
    · rw [if_neg c5] at H
      have c5b0 : (t283 == 0) = false := beq_eq_false_iff_ne.mpr c5
      have c5b1 : (t283 != 0) = true := bne_iff_ne.mpr c5
      obtain rfl := Option.some.inj H
      go_enter Try.func52, Try.ntmps52
      go_wp2_with (first | ((with_reducible refine gate_dst (N := 11) rfl ?_); (try (refine gate_guard (by rfl) ?_; dsimp only)); refine Kd.S_lit k36 _ 36 ?hg (N := 11) ?hd (xs := ([(⟨([] : List (S46)), 1, 0, 1, 0⟩ : S36), (⟨([] : List (S46)), 3, 0, 0, 0⟩ : S36), (⟨([] : List (S46)), 3, 0, 0, 0⟩ : S36)] : List (S36))) (inner := [.slice none 0 0, .int .u8 1, .int .i64 0, .int .i64 1, .int .i64 0, .slice none 0 0, .int .u8 3, .int .i64 0, .int .i64 0, .int .i64 0, .slice none 0 0, .int .u8 3, .int .i64 0, .int .i64 0, .int .i64 0]) (ok := fun _ => True) (okp := fun _ => True) ?hr ?hp (fun _ hk => hk) trivial (Below.refl _ _) (Nat.le_refl _) (by simp) ?_; (case hd => rfl); (case hg => rfl); (case hr => first | (go_simp; done) | (go_simp; rfl)); (case hp => exact (Reps.c5 (show Kd.M k36 _ _ _ (⟨([] : List (S46)), 1, 0, 1, 0⟩ : S36) [.slice none 0 0, .int .u8 1, .int .i64 0, .int .i64 1, .int .i64 0] from (k36_mkM _ _ _ (⟨([] : List (S46)), 1, 0, 1, 0⟩ : S36) (Kd.R_nil _ _ _ _ _))) (Reps.c5 (show Kd.M k36 _ _ _ (⟨([] : List (S46)), 3, 0, 0, 0⟩ : S36) [.slice none 0 0, .int .u8 3, .int .i64 0, .int .i64 0, .int .i64 0] from (k36_mkM _ _ _ (⟨([] : List (S46)), 3, 0, 0, 0⟩ : S36) (Kd.R_nil _ _ _ _ _))) (Reps.c5 (show Kd.M k36 _ _ _ (⟨([] : List (S46)), 3, 0, 0, 0⟩ : S36) [.slice none 0 0, .int .u8 3, .int .i64 0, .int .i64 0, .int .i64 0] from (k36_mkM _ _ _ (⟨([] : List (S46)), 3, 0, 0, 0⟩ : S36) (Kd.R_nil _ _ _ _ _))) (Reps.none _ _))))); intro v273 w49 ho50 hb hg_ hnew_; clear hg_ hnew_; (first | rw [← Ny272.out] at ho50 | (simp only [Int.reduceToNat] at ho50; rw [← Ny272.out] at ho50)); have n0_ := Aside0.mk (Kd.S_lower ho50 (below_size (by repeat (first | (with_reducible first | exact HB.out | apply below_alloc | apply pw_below_drewN | apply below_drew1) | exact HB.out)))); have n1_ := Aside0.mk (below_step (by repeat (first | (with_reducible first | exact HB.out | apply below_alloc | apply pw_below_drewN | apply below_drew1) | exact HB.out)) hb); clear HB; have HO274 := n0_; have HB := n1_; clear n0_ n1_; clear hb ho50; obtain ⟨Ao51, co51, eo51⟩ := Kd.S_slice HO274.out; subst eo51) | ((with_reducible refine gate_dst (N := 1) rfl ?_); (try (refine gate_guard (by rfl) ?_; dsimp only)); refine box_event ?hg (N := 1) ?hd (cs := #[.slice none 0 0, .int .i64 0, .slice none 0 0]) (t := 25) ?hr ?_; (case hd => rfl); (case hg => rfl); (case hr => first | (go_simp; done) | (go_simp; rfl)); intro gb275 hg w52 hbox hb; have n0_ := Aside0.mk (Kd.S_below (by (with_reducible repeat (first | apply Kd.S_alloc | apply Kd.S_drewN | apply Kd.S_drew)); exact HO274.out) hb); have n1_ := Aside0.mk (below_step (by repeat (first | (with_reducible first | exact HB.out | apply below_alloc | apply pw_below_drewN | apply below_drew1) | exact HB.out)) hb); have n2_ := Aside0.mk (hbox); have n3_ := Aside0.mk ((by rw [hg]; exact (below_size (by repeat (first | (with_reducible first | exact HB.out | apply below_alloc | apply pw_below_drewN | apply below_drew1) | exact HB.out))) : w.heap.size ≤ gb275)); have n4_ := Aside0.mk ((by rw [hg]; exact (below_size (by repeat (first | (with_reducible first | exact HB.out | apply below_alloc | apply pw_below_drewN | apply below_drew1) | exact HB.out))) : w.heap.size ≤ gb275)); clear HO274; clear HB; have HO274 := n0_; have HB := n1_; have BK275 := n2_; have GW275 := n3_; have GE275 := n4_; clear n0_ n1_ n2_ n3_ n4_; clear hb hbox hg; have hcz53_0 : w52.cell? ⟨gb275, 0, none⟩ = some (.slice none 0 0) := (blk_cell BK275.out 0).trans rfl; have hcz53_1 : w52.cell? ⟨gb275, 1, none⟩ = some (.int .i64 0) := (blk_cell BK275.out 1).trans rfl; have hcz53_2 : w52.cell? ⟨gb275, 2, none⟩ = some (.slice none 0 0) := (blk_cell BK275.out 2).trans rfl; have hfz53_0 := blk_frozen BK275.out 0; have hfz53_1 := blk_frozen BK275.out 1; have hfz53_2 := blk_frozen BK275.out 2) | ((with_reducible refine gate_callee (f := 49) rfl ?_); refine goesL_ (some 15) rfl rfl Try.func49 (by kernel_rfl) rfl #[.agg #[.slice none 0 0, .int .i64 0, .slice Ao51 y272.length co51]] rfl (by (try simp only [List.map_toArray, List.map_cons, List.map_nil]); first | done | rfl | (simp only [List.length_drop, List.length_take]; rfl)) ?_; (refine (flow_Reach.calls k _ _ ([] : List Bool) 0 _ _ y272 t276 t279 _ ?side1 ?side2 ?side3 ?side4 A1.out).mono ?_); (case side1 => exact Kd.C_nil _ _); (case side2 => exact Nat.le_refl _); (case side3 => refine (Kd.S_reads' (e := 36) (base := w.heap.size) (ok := fun k_ => True) (n := y272.length) (c := co51) ?_).2.2; exact (by (with_reducible repeat (first | apply Kd.S_alloc | apply Kd.S_drewN | apply Kd.S_drew)); exact (Kd.S_mono (Kd.S_far (p := ⟨gb275, 2, none⟩) (Kd.S_far (p := ⟨gb275, 1, none⟩) (Kd.S_far (p := ⟨gb275, 0, none⟩) (Kd.S_types HO274.out BK275.out (by decide)) (fun _ hk => hk.2) (.slice none 0 0)) (fun _ hk => hk.2) (.int .i64 0)) (fun _ hk => hk.2) (.slice Ao51 y272.length co51)) (fun _ h_ => h_.1)))); (case side4 => exact (Kd.S_reads' HO274.out).2.1); rintro e w54 ⟨v277, rfl, ho0, hb⟩; refine ⟨_, rfl, ?_⟩; have n0_ := Aside0.mk (Kd.S_below (by (with_reducible repeat (first | apply Kd.S_alloc | apply Kd.S_drewN | apply Kd.S_drew)); exact (Kd.S_mono (Kd.S_far (p := ⟨gb275, 2, none⟩) (Kd.S_far (p := ⟨gb275, 1, none⟩) (Kd.S_far (p := ⟨gb275, 0, none⟩) (Kd.S_types HO274.out BK275.out (by decide)) (fun _ hk => hk.2) (.slice none 0 0)) (fun _ hk => hk.2) (.int .i64 0)) (fun _ hk => hk.2) (.slice Ao51 y272.length co51)) (fun _ h_ => h_.1))) hb); have n1_ := Aside0.mk (Kd.R_lower ho0 (below_size (by repeat (first | (with_reducible first | exact HB.out | apply below_alloc | apply pw_below_drewN | apply below_drew1 | refine below_set ?_ GE275.out) | exact HB.out)))); have n2_ := Aside0.mk (blk_below (g := gb275) (o := .cells #[.slice none 0 0, .int .i64 0, .slice Ao51 y272.length co51] 25 (0, 0)) (by (with_reducible repeat (first | refine blk_drewN ?_ _ | refine blk_drew ?_ | refine blk_alloc ?_ _)); refine blk_put (cs := #[.slice none 0 0, .int .i64 0, .slice none 0 0]) ?_ 2 _ rfl; (with_reducible repeat (first | refine blk_drewN ?_ _ | refine blk_drew ?_ | refine blk_alloc ?_ _)); refine blk_put (cs := #[.slice none 0 0, .int .i64 0, .slice none 0 0]) ?_ 1 _ rfl; (with_reducible repeat (first | refine blk_drewN ?_ _ | refine blk_drew ?_ | refine blk_alloc ?_ _)); refine blk_put (cs := #[.slice none 0 0, .int .i64 0, .slice none 0 0]) ?_ 0 _ rfl; (with_reducible repeat (first | refine blk_drewN ?_ _ | refine blk_drew ?_ | refine blk_alloc ?_ _)); exact BK275.out) hb); have n3_ := Aside0.mk (below_step (by repeat (first | (with_reducible first | exact HB.out | apply below_alloc | apply pw_below_drewN | apply below_drew1 | refine below_set ?_ GE275.out) | exact HB.out)) hb); clear HO274; clear BK275; clear HB; have HO274 := n0_; have HO278 := n1_; have BK275 := n2_; have HB := n3_; clear n0_ n1_ n2_ n3_; (try clear hb); (try clear hb2); (try clear hk); (try clear hi); (try clear ho0); have hcz55_0 : w54.cell? ⟨gb275, 0, none⟩ = some (.slice none 0 0) := (blk_cell BK275.out 0).trans rfl; have hcz55_1 : w54.cell? ⟨gb275, 1, none⟩ = some (.int .i64 0) := (blk_cell BK275.out 1).trans rfl; have hcz55_2 : w54.cell? ⟨gb275, 2, none⟩ = some (.slice Ao51 y272.length co51) := (blk_cell BK275.out 2).trans rfl; have hfz55_0 := blk_frozen BK275.out 0; have hfz55_1 := blk_frozen BK275.out 1; have hfz55_2 := blk_frozen BK275.out 2) | ((with_reducible refine gate_callee (f := 51) rfl ?_); refine goesL_ (some 20) rfl rfl Try.func51 (by kernel_rfl) rfl #[.agg #[.slice none 0 0, .int .i64 0, .slice Ao51 y272.length co51]] rfl (by (try simp only [List.map_toArray, List.map_cons, List.map_nil]); first | done | rfl | (simp only [List.length_drop, List.length_take]; rfl)) ?_; (refine (flow_Dom.calls _ _ ([] : List Bool) 0 _ _ y272 t280 t283 _ ?side1 ?side2 ?side3 ?side4 A2.out).mono ?_); (case side1 => exact Kd.C_nil _ _); (case side2 => exact Nat.le_refl _); (case side3 => repeat (first | exact (Kd.S_reads' HO274.out).2.2 | (with_reducible refine Kd.C_alloc ?_ _) | (with_reducible refine Kd.C_drewN ?_ _) | (with_reducible refine Kd.C_drew ?_))); (case side4 => exact (Kd.S_reads' HO274.out).2.1); rintro e w56 ⟨v281, rfl, ho0, hb⟩; refine ⟨_, rfl, ?_⟩; have n0_ := Aside0.mk (Kd.S_below (by (with_reducible repeat (first | apply Kd.S_alloc | apply Kd.S_drewN | apply Kd.S_drew)); exact HO274.out) hb); have n1_ := Aside0.mk (Kd.R_below (by (with_reducible repeat (first | apply Kd.R_alloc | apply Kd.R_drewN | apply Kd.R_drew)); exact HO278.out) hb); have n2_ := Aside0.mk (Kd.R_lower ho0 (below_size (by repeat (first | (with_reducible first | exact HB.out | apply below_alloc | apply pw_below_drewN | apply below_drew1 | refine below_set ?_ GE275.out) | exact HB.out)))); have n3_ := Aside0.mk (blk_below (g := gb275) (o := .cells #[.slice none 0 0, .int .i64 0, .slice Ao51 y272.length co51] 25 (0, 0)) (by (with_reducible repeat (first | refine blk_drewN ?_ _ | refine blk_drew ?_ | refine blk_alloc ?_ _)); exact BK275.out) hb); have n4_ := Aside0.mk (below_step (by repeat (first | (with_reducible first | exact HB.out | apply below_alloc | apply pw_below_drewN | apply below_drew1 | refine below_set ?_ GE275.out) | exact HB.out)) hb); clear HO274; clear HO278; clear BK275; clear HB; have HO274 := n0_; have HO278 := n1_; have HO282 := n2_; have BK275 := n3_; have HB := n4_; clear n0_ n1_ n2_ n3_ n4_; (try clear hb); (try clear hb2); (try clear hk); (try clear hi); (try clear ho0)) | ((with_reducible refine gate_callee (f := 50) rfl ?_); refine goesL_ (some 25) rfl rfl Try.func50 (by kernel_rfl) rfl #[.agg #[.slice none 0 0, .int .i64 0, .slice none 0 0]] rfl (by (try simp only [List.map_toArray, List.map_cons, List.map_nil]); first | done | rfl | (simp only [List.length_drop, List.length_take]; rfl)) ?_; (refine (flow_Ahead.calls _ _ ([] : List Bool) 0 _ _ ([] : List (S36)) t284 t287 _ ?side1 ?side2 ?side3 ?side4 A3.out).mono ?_); (case side1 => exact Kd.C_nil _ _); (case side2 => exact Nat.le_refl _); (case side3 => exact Kd.C_nil _ _); (case side4 => exact Nat.le_refl _); rintro e w57 ⟨v285, rfl, ho0, hb⟩; refine ⟨_, rfl, ?_⟩; have n0_ := Aside0.mk (Kd.S_below (by (with_reducible repeat (first | apply Kd.S_alloc | apply Kd.S_drewN | apply Kd.S_drew)); exact HO274.out) hb); have n1_ := Aside0.mk (Kd.R_below (by (with_reducible repeat (first | apply Kd.R_alloc | apply Kd.R_drewN | apply Kd.R_drew)); exact HO278.out) hb); have n2_ := Aside0.mk (Kd.R_below (by (with_reducible repeat (first | apply Kd.R_alloc | apply Kd.R_drewN | apply Kd.R_drew)); exact HO282.out) hb); have n3_ := Aside0.mk (Kd.S_lower (Kd.S_new' ho0 (Kd.R_lt (by (with_reducible repeat (first | apply Kd.R_alloc | apply Kd.R_drewN | apply Kd.R_drew)); exact HO282.out))) (below_size (by repeat (first | (with_reducible first | exact HB.out | apply below_alloc | apply pw_below_drewN | apply below_drew1 | refine below_set ?_ GE275.out) | exact HB.out)))); have n4_ := Aside0.mk (blk_below (g := gb275) (o := .cells #[.slice none 0 0, .int .i64 0, .slice Ao51 y272.length co51] 25 (0, 0)) (by (with_reducible repeat (first | refine blk_drewN ?_ _ | refine blk_drew ?_ | refine blk_alloc ?_ _)); exact BK275.out) hb); have n5_ := Aside0.mk (below_step (by repeat (first | (with_reducible first | exact HB.out | apply below_alloc | apply pw_below_drewN | apply below_drew1 | refine below_set ?_ GE275.out) | exact HB.out)) hb); clear HO274; clear HO278; clear HO282; clear BK275; clear HB; have HO274 := n0_; have HO278 := n1_; have HO282 := n2_; have HO286 := n3_; have BK275 := n4_; have HB := n5_; clear n0_ n1_ n2_ n3_ n4_ n5_; (try clear hb); (try clear hb2); (try clear hk); (try clear hi); (try clear ho0)))
      go_ret
      exact ⟨by first | rfl | (simp [errW_none, errW_some] <;> rfl) | (simp [*, errW_none, errW_some] <;> rfl), by repeat (first | (with_reducible first | exact HB.out | apply below_alloc | apply pw_below_drewN | apply below_drew1 | refine below_set ?_ GE275.out) | exact HB.out)⟩
  · rw [if_neg c4] at H
    have c4b0 : (t279 == 0) = false := beq_eq_false_iff_ne.mpr c4
    have c4b1 : (t279 != 0) = true := bne_iff_ne.mpr c4
    obtain rfl := Option.some.inj H
    go_enter Try.func52, Try.ntmps52
    go_wp2_with (first | ((with_reducible refine gate_dst (N := 11) rfl ?_); (try (refine gate_guard (by rfl) ?_; dsimp only)); refine Kd.S_lit k36 _ 36 ?hg (N := 11) ?hd (xs := ([(⟨([] : List (S46)), 1, 0, 1, 0⟩ : S36), (⟨([] : List (S46)), 3, 0, 0, 0⟩ : S36), (⟨([] : List (S46)), 3, 0, 0, 0⟩ : S36)] : List (S36))) (inner := [.slice none 0 0, .int .u8 1, .int .i64 0, .int .i64 1, .int .i64 0, .slice none 0 0, .int .u8 3, .int .i64 0, .int .i64 0, .int .i64 0, .slice none 0 0, .int .u8 3, .int .i64 0, .int .i64 0, .int .i64 0]) (ok := fun _ => True) (okp := fun _ => True) ?hr ?hp (fun _ hk => hk) trivial (Below.refl _ _) (Nat.le_refl _) (by simp) ?_; (case hd => rfl); (case hg => rfl); (case hr => first | (go_simp; done) | (go_simp; rfl)); (case hp => exact (Reps.c5 (show Kd.M k36 _ _ _ (⟨([] : List (S46)), 1, 0, 1, 0⟩ : S36) [.slice none 0 0, .int .u8 1, .int .i64 0, .int .i64 1, .int .i64 0] from (k36_mkM _ _ _ (⟨([] : List (S46)), 1, 0, 1, 0⟩ : S36) (Kd.R_nil _ _ _ _ _))) (Reps.c5 (show Kd.M k36 _ _ _ (⟨([] : List (S46)), 3, 0, 0, 0⟩ : S36) [.slice none 0 0, .int .u8 3, .int .i64 0, .int .i64 0, .int .i64 0] from (k36_mkM _ _ _ (⟨([] : List (S46)), 3, 0, 0, 0⟩ : S36) (Kd.R_nil _ _ _ _ _))) (Reps.c5 (show Kd.M k36 _ _ _ (⟨([] : List (S46)), 3, 0, 0, 0⟩ : S36) [.slice none 0 0, .int .u8 3, .int .i64 0, .int .i64 0, .int .i64 0] from (k36_mkM _ _ _ (⟨([] : List (S46)), 3, 0, 0, 0⟩ : S36) (Kd.R_nil _ _ _ _ _))) (Reps.none _ _))))); intro v273 w58 ho59 hb hg_ hnew_; clear hg_ hnew_; (first | rw [← Ny272.out] at ho59 | (simp only [Int.reduceToNat] at ho59; rw [← Ny272.out] at ho59)); have n0_ := Aside0.mk (Kd.S_lower ho59 (below_size (by repeat (first | (with_reducible first | exact HB.out | apply below_alloc | apply pw_below_drewN | apply below_drew1) | exact HB.out)))); have n1_ := Aside0.mk (below_step (by repeat (first | (with_reducible first | exact HB.out | apply below_alloc | apply pw_below_drewN | apply below_drew1) | exact HB.out)) hb); clear HB; have HO274 := n0_; have HB := n1_; clear n0_ n1_; clear hb ho59; obtain ⟨Ao60, co60, eo60⟩ := Kd.S_slice HO274.out; subst eo60) | ((with_reducible refine gate_dst (N := 1) rfl ?_); (try (refine gate_guard (by rfl) ?_; dsimp only)); refine box_event ?hg (N := 1) ?hd (cs := #[.slice none 0 0, .int .i64 0, .slice none 0 0]) (t := 25) ?hr ?_; (case hd => rfl); (case hg => rfl); (case hr => first | (go_simp; done) | (go_simp; rfl)); intro gb275 hg w61 hbox hb; have n0_ := Aside0.mk (Kd.S_below (by (with_reducible repeat (first | apply Kd.S_alloc | apply Kd.S_drewN | apply Kd.S_drew)); exact HO274.out) hb); have n1_ := Aside0.mk (below_step (by repeat (first | (with_reducible first | exact HB.out | apply below_alloc | apply pw_below_drewN | apply below_drew1) | exact HB.out)) hb); have n2_ := Aside0.mk (hbox); have n3_ := Aside0.mk ((by rw [hg]; exact (below_size (by repeat (first | (with_reducible first | exact HB.out | apply below_alloc | apply pw_below_drewN | apply below_drew1) | exact HB.out))) : w.heap.size ≤ gb275)); have n4_ := Aside0.mk ((by rw [hg]; exact (below_size (by repeat (first | (with_reducible first | exact HB.out | apply below_alloc | apply pw_below_drewN | apply below_drew1) | exact HB.out))) : w.heap.size ≤ gb275)); clear HO274; clear HB; have HO274 := n0_; have HB := n1_; have BK275 := n2_; have GW275 := n3_; have GE275 := n4_; clear n0_ n1_ n2_ n3_ n4_; clear hb hbox hg; have hcz62_0 : w61.cell? ⟨gb275, 0, none⟩ = some (.slice none 0 0) := (blk_cell BK275.out 0).trans rfl; have hcz62_1 : w61.cell? ⟨gb275, 1, none⟩ = some (.int .i64 0) := (blk_cell BK275.out 1).trans rfl; have hcz62_2 : w61.cell? ⟨gb275, 2, none⟩ = some (.slice none 0 0) := (blk_cell BK275.out 2).trans rfl; have hfz62_0 := blk_frozen BK275.out 0; have hfz62_1 := blk_frozen BK275.out 1; have hfz62_2 := blk_frozen BK275.out 2) | ((with_reducible refine gate_callee (f := 49) rfl ?_); refine goesL_ (some 15) rfl rfl Try.func49 (by kernel_rfl) rfl #[.agg #[.slice none 0 0, .int .i64 0, .slice Ao60 y272.length co60]] rfl (by (try simp only [List.map_toArray, List.map_cons, List.map_nil]); first | done | rfl | (simp only [List.length_drop, List.length_take]; rfl)) ?_; (refine (flow_Reach.calls k _ _ ([] : List Bool) 0 _ _ y272 t276 t279 _ ?side1 ?side2 ?side3 ?side4 A1.out).mono ?_); (case side1 => exact Kd.C_nil _ _); (case side2 => exact Nat.le_refl _); (case side3 => refine (Kd.S_reads' (e := 36) (base := w.heap.size) (ok := fun k_ => True) (n := y272.length) (c := co60) ?_).2.2; exact (by (with_reducible repeat (first | apply Kd.S_alloc | apply Kd.S_drewN | apply Kd.S_drew)); exact (Kd.S_mono (Kd.S_far (p := ⟨gb275, 2, none⟩) (Kd.S_far (p := ⟨gb275, 1, none⟩) (Kd.S_far (p := ⟨gb275, 0, none⟩) (Kd.S_types HO274.out BK275.out (by decide)) (fun _ hk => hk.2) (.slice none 0 0)) (fun _ hk => hk.2) (.int .i64 0)) (fun _ hk => hk.2) (.slice Ao60 y272.length co60)) (fun _ h_ => h_.1)))); (case side4 => exact (Kd.S_reads' HO274.out).2.1); rintro e w63 ⟨v277, rfl, ho0, hb⟩; refine ⟨_, rfl, ?_⟩; have n0_ := Aside0.mk (Kd.S_below (by (with_reducible repeat (first | apply Kd.S_alloc | apply Kd.S_drewN | apply Kd.S_drew)); exact (Kd.S_mono (Kd.S_far (p := ⟨gb275, 2, none⟩) (Kd.S_far (p := ⟨gb275, 1, none⟩) (Kd.S_far (p := ⟨gb275, 0, none⟩) (Kd.S_types HO274.out BK275.out (by decide)) (fun _ hk => hk.2) (.slice none 0 0)) (fun _ hk => hk.2) (.int .i64 0)) (fun _ hk => hk.2) (.slice Ao60 y272.length co60)) (fun _ h_ => h_.1))) hb); have n1_ := Aside0.mk (Kd.R_lower ho0 (below_size (by repeat (first | (with_reducible first | exact HB.out | apply below_alloc | apply pw_below_drewN | apply below_drew1 | refine below_set ?_ GE275.out) | exact HB.out)))); have n2_ := Aside0.mk (blk_below (g := gb275) (o := .cells #[.slice none 0 0, .int .i64 0, .slice Ao60 y272.length co60] 25 (0, 0)) (by (with_reducible repeat (first | refine blk_drewN ?_ _ | refine blk_drew ?_ | refine blk_alloc ?_ _)); refine blk_put (cs := #[.slice none 0 0, .int .i64 0, .slice none 0 0]) ?_ 2 _ rfl; (with_reducible repeat (first | refine blk_drewN ?_ _ | refine blk_drew ?_ | refine blk_alloc ?_ _)); refine blk_put (cs := #[.slice none 0 0, .int .i64 0, .slice none 0 0]) ?_ 1 _ rfl; (with_reducible repeat (first | refine blk_drewN ?_ _ | refine blk_drew ?_ | refine blk_alloc ?_ _)); refine blk_put (cs := #[.slice none 0 0, .int .i64 0, .slice none 0 0]) ?_ 0 _ rfl; (with_reducible repeat (first | refine blk_drewN ?_ _ | refine blk_drew ?_ | refine blk_alloc ?_ _)); exact BK275.out) hb); have n3_ := Aside0.mk (below_step (by repeat (first | (with_reducible first | exact HB.out | apply below_alloc | apply pw_below_drewN | apply below_drew1 | refine below_set ?_ GE275.out) | exact HB.out)) hb); clear HO274; clear BK275; clear HB; have HO274 := n0_; have HO278 := n1_; have BK275 := n2_; have HB := n3_; clear n0_ n1_ n2_ n3_; (try clear hb); (try clear hb2); (try clear hk); (try clear hi); (try clear ho0); have hcz64_0 : w63.cell? ⟨gb275, 0, none⟩ = some (.slice none 0 0) := (blk_cell BK275.out 0).trans rfl; have hcz64_1 : w63.cell? ⟨gb275, 1, none⟩ = some (.int .i64 0) := (blk_cell BK275.out 1).trans rfl; have hcz64_2 : w63.cell? ⟨gb275, 2, none⟩ = some (.slice Ao60 y272.length co60) := (blk_cell BK275.out 2).trans rfl; have hfz64_0 := blk_frozen BK275.out 0; have hfz64_1 := blk_frozen BK275.out 1; have hfz64_2 := blk_frozen BK275.out 2) | ((with_reducible refine gate_callee (f := 51) rfl ?_); refine goesL_ (some 20) rfl rfl Try.func51 (by kernel_rfl) rfl #[.agg #[.slice none 0 0, .int .i64 0, .slice Ao60 y272.length co60]] rfl (by (try simp only [List.map_toArray, List.map_cons, List.map_nil]); first | done | rfl | (simp only [List.length_drop, List.length_take]; rfl)) ?_; (refine (flow_Dom.calls _ _ ([] : List Bool) 0 _ _ y272 t280 t283 _ ?side1 ?side2 ?side3 ?side4 A2.out).mono ?_); (case side1 => exact Kd.C_nil _ _); (case side2 => exact Nat.le_refl _); (case side3 => repeat (first | exact (Kd.S_reads' HO274.out).2.2 | (with_reducible refine Kd.C_alloc ?_ _) | (with_reducible refine Kd.C_drewN ?_ _) | (with_reducible refine Kd.C_drew ?_))); (case side4 => exact (Kd.S_reads' HO274.out).2.1); rintro e w65 ⟨v281, rfl, ho0, hb⟩; refine ⟨_, rfl, ?_⟩; have n0_ := Aside0.mk (Kd.S_below (by (with_reducible repeat (first | apply Kd.S_alloc | apply Kd.S_drewN | apply Kd.S_drew)); exact HO274.out) hb); have n1_ := Aside0.mk (Kd.R_below (by (with_reducible repeat (first | apply Kd.R_alloc | apply Kd.R_drewN | apply Kd.R_drew)); exact HO278.out) hb); have n2_ := Aside0.mk (Kd.R_lower ho0 (below_size (by repeat (first | (with_reducible first | exact HB.out | apply below_alloc | apply pw_below_drewN | apply below_drew1 | refine below_set ?_ GE275.out) | exact HB.out)))); have n3_ := Aside0.mk (blk_below (g := gb275) (o := .cells #[.slice none 0 0, .int .i64 0, .slice Ao60 y272.length co60] 25 (0, 0)) (by (with_reducible repeat (first | refine blk_drewN ?_ _ | refine blk_drew ?_ | refine blk_alloc ?_ _)); exact BK275.out) hb); have n4_ := Aside0.mk (below_step (by repeat (first | (with_reducible first | exact HB.out | apply below_alloc | apply pw_below_drewN | apply below_drew1 | refine below_set ?_ GE275.out) | exact HB.out)) hb); clear HO274; clear HO278; clear BK275; clear HB; have HO274 := n0_; have HO278 := n1_; have HO282 := n2_; have BK275 := n3_; have HB := n4_; clear n0_ n1_ n2_ n3_ n4_; (try clear hb); (try clear hb2); (try clear hk); (try clear hi); (try clear ho0)) | ((with_reducible refine gate_callee (f := 50) rfl ?_); refine goesL_ (some 25) rfl rfl Try.func50 (by kernel_rfl) rfl #[.agg #[.slice none 0 0, .int .i64 0, .slice none 0 0]] rfl (by (try simp only [List.map_toArray, List.map_cons, List.map_nil]); first | done | rfl | (simp only [List.length_drop, List.length_take]; rfl)) ?_; (refine (flow_Ahead.calls _ _ ([] : List Bool) 0 _ _ ([] : List (S36)) t284 t287 _ ?side1 ?side2 ?side3 ?side4 A3.out).mono ?_); (case side1 => exact Kd.C_nil _ _); (case side2 => exact Nat.le_refl _); (case side3 => exact Kd.C_nil _ _); (case side4 => exact Nat.le_refl _); rintro e w66 ⟨v285, rfl, ho0, hb⟩; refine ⟨_, rfl, ?_⟩; have n0_ := Aside0.mk (Kd.S_below (by (with_reducible repeat (first | apply Kd.S_alloc | apply Kd.S_drewN | apply Kd.S_drew)); exact HO274.out) hb); have n1_ := Aside0.mk (Kd.R_below (by (with_reducible repeat (first | apply Kd.R_alloc | apply Kd.R_drewN | apply Kd.R_drew)); exact HO278.out) hb); have n2_ := Aside0.mk (Kd.R_below (by (with_reducible repeat (first | apply Kd.R_alloc | apply Kd.R_drewN | apply Kd.R_drew)); exact HO282.out) hb); have n3_ := Aside0.mk (Kd.S_lower (Kd.S_new' ho0 (Kd.R_lt (by (with_reducible repeat (first | apply Kd.R_alloc | apply Kd.R_drewN | apply Kd.R_drew)); exact HO282.out))) (below_size (by repeat (first | (with_reducible first | exact HB.out | apply below_alloc | apply pw_below_drewN | apply below_drew1 | refine below_set ?_ GE275.out) | exact HB.out)))); have n4_ := Aside0.mk (blk_below (g := gb275) (o := .cells #[.slice none 0 0, .int .i64 0, .slice Ao60 y272.length co60] 25 (0, 0)) (by (with_reducible repeat (first | refine blk_drewN ?_ _ | refine blk_drew ?_ | refine blk_alloc ?_ _)); exact BK275.out) hb); have n5_ := Aside0.mk (below_step (by repeat (first | (with_reducible first | exact HB.out | apply below_alloc | apply pw_below_drewN | apply below_drew1 | refine below_set ?_ GE275.out) | exact HB.out)) hb); clear HO274; clear HO278; clear HO282; clear BK275; clear HB; have HO274 := n0_; have HO278 := n1_; have HO282 := n2_; have HO286 := n3_; have BK275 := n4_; have HB := n5_; clear n0_ n1_ n2_ n3_ n4_ n5_; (try clear hb); (try clear hb2); (try clear hk); (try clear hi); (try clear ho0)))
    go_ret
    exact ⟨by first | rfl | (simp [errW_none, errW_some] <;> rfl) | (simp [*, errW_none, errW_some] <;> rfl), by repeat (first | (with_reducible first | exact HB.out | apply below_alloc | apply pw_below_drewN | apply below_drew1 | refine below_set ?_ GE275.out) | exact HB.out)⟩
end Go.Proofs.Ytjmeignhhheckaa.Q
namespace Go.Proofs.Ytjmeignhhheckaa.H
open Go.RowKit Go.Maps Go.Proofs.YtjmeignhhheckaaW.PrintWords Go.Proofs.YtjmeignhhheckaaW.PrintLast Go.Proofs.Ytjmeignhhheckaa.Q
set_option maxRecDepth 100000
def g3 : List S36 := [⟨[], 1, 0, 1, 0⟩, ⟨[], 3, 0, 0, 0⟩, ⟨[], 3, 0, 0, 0⟩]
theorem g3_order : orderS g3 = [0, 1] := by kernel_rfl
theorem g3_gE : gE [] 0 g3 = 0 := by kernel_rfl
theorem g0_gE : gE [] 0 [] = 14 := by kernel_rfl
theorem g3_small : smallG g3 := by unfold smallG; decide
theorem g0_small : smallG [] := by unfold smallG; decide
theorem g3_ah : ahS g3 = [[], [0], []] := by
  unfold ahS
  rw [g3_order]
  have : ahGo g3 [0, 1] (List.replicate g3.length []) = [[], [0], []] := by kernel_rfl
  rw [this]
  simp [sortI]
theorem g3_dom : domR g3 = [0, 0, -1] := by
  unfold domR numO
  rw [g3_order, g3_ah]
  kernel_rfl
theorem g3_domf : flow_Dom.f [] 0 g3 = some ([-1, 0, -1], 0) := by
  unfold flow_Dom.f domS
  rw [if_pos g3_small, if_pos g3_gE, g3_dom]
  rfl
theorem g0_ahead : flow_Ahead.f [] 0 [] = some ([], 14) := by
  unfold flow_Ahead.f
  rw [check_f _ _ _ g0_small, g0_gE]
  rfl
theorem g3_reach : flow_Reach.f 40 [] 0 g3 = some ([true, true, false], 0) := by kernel_rfl
theorem fl_alive_50 : turnstilelaw12_alive.f 40 = some true := by
  unfold turnstilelaw12_alive.f
  rw [Option.bind_some]
  show ((flow_Reach.f 40 [] 0 g3).bind _) = _
  rw [g3_reach, Option.bind_some]
  show ((flow_Dom.f [] 0 g3).bind _) = _
  rw [g3_domf, Option.bind_some, g0_ahead, Option.bind_some]
  kernel_rfl
theorem fl_alive (k : Nat) (hk : 40 ≤ k) : turnstilelaw12_alive.f k = some true := by
  obtain ⟨d, rfl⟩ : ∃ d, k = 40 + d := ⟨k - 40, by omega⟩
  induction d with
  | zero => exact fl_alive_50
  | succ d ih => exact turnstilelaw12_alive.mono (40 + d) _ (ih (by omega))
end Go.Proofs.Ytjmeignhhheckaa.H

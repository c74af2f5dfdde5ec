/- Part 2 of the proof: contracts of the functions that are reached, and the plain law. -/
import Derived.Test.YtjmeignhhheckaaXa
import Derived.Test.YtjmeignhhheckaaProg
import Derived.Lib.OthersKept
import Derived.LoopTactic
import Derived.Lib.Hide
import Derived.Outline
import Derived.Maps.OwnOps
import Derived.Carry
import Derived.Maps.OwnSet
import Derived.StillTailTactics
import Derived.RegionTactic
set_option linter.unusedVariables false
set_option linter.unusedSimpArgs false
namespace Go.Proofs.Ytjmeignhhheckaa.Q
open Go.RowKit Go.Proofs.YtjmeignhhheckaaW.PrintWords Go.Proofs.YtjmeignhhheckaaW.PrintLast Go.Proofs.YtjmeignhhheckaaW.PrintMore
attribute [local go_sem] max2_int min2_int max_two min_two max_three min_three max_four min_four   -- for this text's walks alone
set_option linter.unusedVariables false
set_option linter.unusedSimpArgs false
def errW : Option Int → Value
  | none => .nilIface
  | some c => .iface 0 (.int .i64 c)
theorem errW_none : errW none = .nilIface := rfl
theorem errW_some (c : Int) : errW (some c) = .iface 0 (.int .i64 c) := rfl
theorem info3 : (Try.prog.info? 3).map (fun i => (i.zero, i.size, i.bytes)) = some (some (.int .i64 0), 1, 8) := by kernel_rfl
theorem info4 : (Try.prog.info? 4).map (fun i => (i.zero, i.size, i.bytes)) = some (some (.bool false), 1, 1) := by kernel_rfl
theorem info46 : (Try.prog.info? 46).map (fun i => (i.zero, i.size, i.bytes)) = some (some (.agg #[(.int .u8 0), (.int .u8 0), (.int .i64 0), (.int .i64 0), (.int .i64 0), (.int .i64 0)]), 6, 40) := by kernel_rfl
theorem info171 : (Try.prog.info? 171).map (fun i => (i.zero, i.size, i.bytes)) = some (some (.agg #[(.int .i64 0), (.bool false)]), 2, 16) := by kernel_rfl
structure S46 where
  f0 : Int
  f1 : Int
  f2 : Int
  f3 : Int
  f4 : Int
  f5 : Int
def z46 : S46 := ⟨(0 : Int), (0 : Int), (0 : Int), (0 : Int), (0 : Int), (0 : Int)⟩
def k46 : Kd S46 := Kd.iso (Kd.pair (Kd.int .u8) (Kd.pair (Kd.int .u8) (Kd.pair (Kd.int .i64) (Kd.pair (Kd.int .i64) (Kd.pair (Kd.int .i64) (Kd.int .i64)))))) (fun x : S46 => (x.f0, x.f1, x.f2, x.f3, x.f4, x.f5))
theorem k46_heap : Kd.Heap k46 := Kd.heap_iso _ (Kd.heap_pair (Kd.heap_int .u8) (Kd.heap_pair (Kd.heap_int .u8) (Kd.heap_pair (Kd.heap_int .i64) (Kd.heap_pair (Kd.heap_int .i64) (Kd.heap_pair (Kd.heap_int .i64) (Kd.heap_int .i64))))))
theorem k46_open {w : World} {x : S46} {cs : List Value} (h : k46.K w x cs) : cs = [.int .u8 x.f0, .int .u8 x.f1, .int .i64 x.f2, .int .i64 x.f3, .int .i64 x.f4, .int .i64 x.f5] := by
  obtain ⟨_, _, rfl, rfl, ⟨_, _, rfl, rfl, ⟨_, _, rfl, rfl, ⟨_, _, rfl, rfl, ⟨_, _, rfl, rfl, rfl⟩⟩⟩⟩⟩ := h
  exact rfl
theorem k46_mkM (w : World) (base : Nat) (ok : Nat → Prop) (x : S46)  : k46.M w base ok x [.int .u8 x.f0, .int .u8 x.f1, .int .i64 x.f2, .int .i64 x.f3, .int .i64 x.f4, .int .i64 x.f5] := ⟨[.int .u8 x.f0], [.int .u8 x.f1, .int .i64 x.f2, .int .i64 x.f3, .int .i64 x.f4, .int .i64 x.f5], rfl, rfl, ⟨[.int .u8 x.f1], [.int .i64 x.f2, .int .i64 x.f3, .int .i64 x.f4, .int .i64 x.f5], rfl, rfl, ⟨[.int .i64 x.f2], [.int .i64 x.f3, .int .i64 x.f4, .int .i64 x.f5], rfl, rfl, ⟨[.int .i64 x.f3], [.int .i64 x.f4, .int .i64 x.f5], rfl, rfl, ⟨[.int .i64 x.f4], [.int .i64 x.f5], rfl, rfl, rfl⟩⟩⟩⟩⟩
def rd_T46 (xs : List S46) (i : Int) : S46 := xs.getD i.toNat z46
theorem at_T46 {w : World} {A : Option Addr} {n : Nat} {xs : List S46} (h : Kd.C k46 w A n xs) (i : Int) (h0 : 0 ≤ i) (h1 : i < n) : ∃ ad , A = some ad ∧ w.cell? (ad.add (i.toNat * 6)) = some (.int .u8 (rd_T46 xs i).f0) ∧ w.cell? ⟨(ad.add (i.toNat * 6)).block, (ad.add (i.toNat * 6)).off + 1, none⟩ = some (.int .u8 (rd_T46 xs i).f1) ∧ w.cell? ⟨(ad.add (i.toNat * 6)).block, (ad.add (i.toNat * 6)).off + 2, none⟩ = some (.int .i64 (rd_T46 xs i).f2) ∧ w.cell? ⟨(ad.add (i.toNat * 6)).block, (ad.add (i.toNat * 6)).off + 3, none⟩ = some (.int .i64 (rd_T46 xs i).f3) ∧ w.cell? ⟨(ad.add (i.toNat * 6)).block, (ad.add (i.toNat * 6)).off + 4, none⟩ = some (.int .i64 (rd_T46 xs i).f4) ∧ w.cell? ⟨(ad.add (i.toNat * 6)).block, (ad.add (i.toNat * 6)).off + 5, none⟩ = some (.int .i64 (rd_T46 xs i).f5) := by
  obtain ⟨ad, c, e, _, hK, hc0⟩ := Kd.C_get h z46 i h0 h1
  have hc : ∀ j u, c[j]? = some u → w.cell? (ad.add (i.toNat * 6 + j)) = some u := hc0
  obtain rfl := k46_open hK
  exact ⟨ad, e, hc 0 _ rfl, by rw [← add_field _ _ 1 (by omega)]; exact hc 1 _ rfl, by rw [← add_field _ _ 2 (by omega)]; exact hc 2 _ rfl, by rw [← add_field _ _ 3 (by omega)]; exact hc 3 _ rfl, by rw [← add_field _ _ 4 (by omega)]; exact hc 4 _ rfl, by rw [← add_field _ _ 5 (by omega)]; exact hc 5 _ rfl⟩
structure S36 where
  f0 : (List S46)
  f1 : Int
  f2 : Int
  f3 : Int
  f4 : Int
def z36 : S36 := ⟨([] : List S46), (0 : Int), (0 : Int), (0 : Int), (0 : Int)⟩
def k36 : Kd S36 := Kd.iso (Kd.pair (Kd.slice 46 k46) (Kd.pair (Kd.int .u8) (Kd.pair (Kd.int .i64) (Kd.pair (Kd.int .i64) (Kd.int .i64))))) (fun x : S36 => (x.f0, x.f1, x.f2, x.f3, x.f4))
theorem k36_heap : Kd.Heap k36 := Kd.heap_iso _ (Kd.heap_pair (Kd.heap_slice 46 k46_heap) (Kd.heap_pair (Kd.heap_int .u8) (Kd.heap_pair (Kd.heap_int .i64) (Kd.heap_pair (Kd.heap_int .i64) (Kd.heap_int .i64)))))
theorem k36_open {w : World} {x : S36} {cs : List Value} (h : k36.K w x cs) : ∃ A0 c0, cs = [.slice A0 x.f0.length c0, .int .u8 x.f1, .int .i64 x.f2, .int .i64 x.f3, .int .i64 x.f4] ∧ x.f0.length ≤ c0 ∧ k46.C w A0 x.f0.length x.f0 := by
  obtain ⟨_, _, rfl, ⟨A0, c0, rfl, l0, g0⟩, ⟨_, _, rfl, rfl, ⟨_, _, rfl, rfl, ⟨_, _, rfl, rfl, rfl⟩⟩⟩⟩ := h
  exact ⟨A0, c0, rfl, l0, g0⟩
theorem k36_mk (w : World) (x : S36) {A0 : Option Addr} {c0 : Nat} (l0 : x.f0.length ≤ c0) (g0 : k46.C w A0 x.f0.length x.f0) : k36.K w x [.slice A0 x.f0.length c0, .int .u8 x.f1, .int .i64 x.f2, .int .i64 x.f3, .int .i64 x.f4] := ⟨[.slice A0 x.f0.length c0], [.int .u8 x.f1, .int .i64 x.f2, .int .i64 x.f3, .int .i64 x.f4], rfl, ⟨A0, c0, rfl, l0, g0⟩, ⟨[.int .u8 x.f1], [.int .i64 x.f2, .int .i64 x.f3, .int .i64 x.f4], rfl, rfl, ⟨[.int .i64 x.f2], [.int .i64 x.f3, .int .i64 x.f4], rfl, rfl, ⟨[.int .i64 x.f3], [.int .i64 x.f4], rfl, rfl, rfl⟩⟩⟩⟩
theorem k36_mkF (W : World) (ok : Nat → Prop) (x : S36) {A0 : Option Addr} {c0 : Nat} (l0 : x.f0.length ≤ c0) (g0 : Kd.F k46 W ok A0 x.f0.length x.f0) : Kd.FK k36 W ok x [.slice A0 x.f0.length c0, .int .u8 x.f1, .int .i64 x.f2, .int .i64 x.f3, .int .i64 x.f4] := fun W2 hW => k36_mk W2 x l0 (g0 W2 hW)
def rd_T36 (xs : List S36) (i : Int) : S36 := xs.getD i.toNat z36
theorem at_T36 {w : World} {A : Option Addr} {n : Nat} {xs : List S36} (h : Kd.C k36 w A n xs) (i : Int) (h0 : 0 ≤ i) (h1 : i < n) : ∃ ad A0 c0, A = some ad ∧ w.cell? (ad.add (i.toNat * 5)) = some (.slice A0 (rd_T36 xs i).f0.length c0) ∧ w.cell? ⟨(ad.add (i.toNat * 5)).block, (ad.add (i.toNat * 5)).off + 1, none⟩ = some (.int .u8 (rd_T36 xs i).f1) ∧ w.cell? ⟨(ad.add (i.toNat * 5)).block, (ad.add (i.toNat * 5)).off + 2, none⟩ = some (.int .i64 (rd_T36 xs i).f2) ∧ w.cell? ⟨(ad.add (i.toNat * 5)).block, (ad.add (i.toNat * 5)).off + 3, none⟩ = some (.int .i64 (rd_T36 xs i).f3) ∧ w.cell? ⟨(ad.add (i.toNat * 5)).block, (ad.add (i.toNat * 5)).off + 4, none⟩ = some (.int .i64 (rd_T36 xs i).f4) ∧ (rd_T36 xs i).f0.length ≤ c0 ∧ k46.C w A0 (rd_T36 xs i).f0.length (rd_T36 xs i).f0 := by
  obtain ⟨ad, c, e, _, hK, hc0⟩ := Kd.C_get h z36 i h0 h1
  have hc : ∀ j u, c[j]? = some u → w.cell? (ad.add (i.toNat * 5 + j)) = some u := hc0
  obtain ⟨A0, c0, rfl, l0, g0⟩ := k36_open hK
  exact ⟨ad, A0, c0, e, hc 0 _ rfl, by rw [← add_field _ _ 1 (by omega)]; exact hc 1 _ rfl, by rw [← add_field _ _ 2 (by omega)]; exact hc 2 _ rfl, by rw [← add_field _ _ 3 (by omega)]; exact hc 3 _ rfl, by rw [← add_field _ _ 4 (by omega)]; exact hc 4 _ rfl, l0, g0⟩
structure S171 where
  f0 : Int
  f1 : Bool
def z171 : S171 := ⟨(0 : Int), false⟩
def k171 : Kd S171 := Kd.iso (Kd.pair (Kd.int .i64) Kd.bool) (fun x : S171 => (x.f0, x.f1))
theorem k171_open {w : World} {x : S171} {cs : List Value} (h : k171.K w x cs) : cs = [.int .i64 x.f0, .bool x.f1] := by
  obtain ⟨_, _, rfl, rfl, rfl⟩ := h
  exact rfl
theorem k171_mkM (w : World) (base : Nat) (ok : Nat → Prop) (x : S171)  : k171.M w base ok x [.int .i64 x.f0, .bool x.f1] := ⟨[.int .i64 x.f0], [.bool x.f1], rfl, rfl, rfl⟩
def rd_T171 (xs : List S171) (i : Int) : S171 := xs.getD i.toNat z171
theorem at_T171 {w : World} {A : Option Addr} {n : Nat} {xs : List S171} (h : Kd.C k171 w A n xs) (i : Int) (h0 : 0 ≤ i) (h1 : i < n) : ∃ ad , A = some ad ∧ w.cell? (ad.add (i.toNat * 2)) = some (.int .i64 (rd_T171 xs i).f0) ∧ w.cell? ⟨(ad.add (i.toNat * 2)).block, (ad.add (i.toNat * 2)).off + 1, none⟩ = some (.bool (rd_T171 xs i).f1) := by
  obtain ⟨ad, c, e, _, hK, hc0⟩ := Kd.C_get h z171 i h0 h1
  have hc : ∀ j u, c[j]? = some u → w.cell? (ad.add (i.toNat * 2 + j)) = some u := hc0
  obtain rfl := k171_open hK
  exact ⟨ad, e, hc 0 _ rfl, by rw [← add_field _ _ 1 (by omega)]; exact hc 1 _ rfl⟩
structure S25 where
  f0 : (List Bool)
  f1 : Int
  f2 : (List S36)
def z25 : S25 := ⟨([] : List Bool), (0 : Int), ([] : List S36)⟩
def k25 : Kd S25 := Kd.iso (Kd.pair (Kd.slice 4 Kd.bool) (Kd.pair (Kd.int .i64) (Kd.slice 36 k36))) (fun x : S25 => (x.f0, x.f1, x.f2))
theorem k25_open {w : World} {x : S25} {cs : List Value} (h : k25.K w x cs) : ∃ A0 c0 A2 c2, cs = [.slice A0 x.f0.length c0, .int .i64 x.f1, .slice A2 x.f2.length c2] ∧ x.f0.length ≤ c0 ∧ Kd.bool.C w A0 x.f0.length x.f0 ∧ x.f2.length ≤ c2 ∧ k36.C w A2 x.f2.length x.f2 := by
  obtain ⟨_, _, rfl, ⟨A0, c0, rfl, l0, g0⟩, ⟨_, _, rfl, rfl, ⟨A2, c2, rfl, l2, g2⟩⟩⟩ := h
  exact ⟨A0, c0, A2, c2, rfl, l0, g0, l2, g2⟩
theorem k25_mk (w : World) (x : S25) {A0 : Option Addr} {c0 : Nat} (l0 : x.f0.length ≤ c0) (g0 : Kd.bool.C w A0 x.f0.length x.f0) {A2 : Option Addr} {c2 : Nat} (l2 : x.f2.length ≤ c2) (g2 : k36.C w A2 x.f2.length x.f2) : k25.K w x [.slice A0 x.f0.length c0, .int .i64 x.f1, .slice A2 x.f2.length c2] := ⟨[.slice A0 x.f0.length c0], [.int .i64 x.f1, .slice A2 x.f2.length c2], rfl, ⟨A0, c0, rfl, l0, g0⟩, ⟨[.int .i64 x.f1], [.slice A2 x.f2.length c2], rfl, rfl, ⟨A2, c2, rfl, l2, g2⟩⟩⟩
theorem k25_mkF (W : World) (ok : Nat → Prop) (x : S25) {A0 : Option Addr} {c0 : Nat} (l0 : x.f0.length ≤ c0) (g0 : Kd.F Kd.bool W ok A0 x.f0.length x.f0) {A2 : Option Addr} {c2 : Nat} (l2 : x.f2.length ≤ c2) (g2 : Kd.F k36 W ok A2 x.f2.length x.f2) : Kd.FK k25 W ok x [.slice A0 x.f0.length c0, .int .i64 x.f1, .slice A2 x.f2.length c2] := fun W2 hW => k25_mk W2 x l0 (g0 W2 hW) l2 (g2 W2 hW)
def rd_T25 (xs : List S25) (i : Int) : S25 := xs.getD i.toNat z25
theorem at_T25 {w : World} {A : Option Addr} {n : Nat} {xs : List S25} (h : Kd.C k25 w A n xs) (i : Int) (h0 : 0 ≤ i) (h1 : i < n) : ∃ ad A0 c0 A2 c2, A = some ad ∧ w.cell? (ad.add (i.toNat * 3)) = some (.slice A0 (rd_T25 xs i).f0.length c0) ∧ w.cell? ⟨(ad.add (i.toNat * 3)).block, (ad.add (i.toNat * 3)).off + 1, none⟩ = some (.int .i64 (rd_T25 xs i).f1) ∧ w.cell? ⟨(ad.add (i.toNat * 3)).block, (ad.add (i.toNat * 3)).off + 2, none⟩ = some (.slice A2 (rd_T25 xs i).f2.length c2) ∧ (rd_T25 xs i).f0.length ≤ c0 ∧ Kd.bool.C w A0 (rd_T25 xs i).f0.length (rd_T25 xs i).f0 ∧ (rd_T25 xs i).f2.length ≤ c2 ∧ k36.C w A2 (rd_T25 xs i).f2.length (rd_T25 xs i).f2 := by
  obtain ⟨ad, c, e, _, hK, hc0⟩ := Kd.C_get h z25 i h0 h1
  have hc : ∀ j u, c[j]? = some u → w.cell? (ad.add (i.toNat * 3 + j)) = some u := hc0
  obtain ⟨A0, c0, A2, c2, rfl, l0, g0, l2, g2⟩ := k25_open hK
  exact ⟨ad, A0, c0, A2, c2, e, hc 0 _ rfl, by rw [← add_field _ _ 1 (by omega)]; exact hc 1 _ rfl, by rw [← add_field _ _ 2 (by omega)]; exact hc 2 _ rfl, l0, g0, l2, g2⟩
structure S41 where
  f0 : Int
  f1 : Int
def k41 : Kd S41 := Kd.iso (Kd.pair (Kd.int .i64) (Kd.int .i64)) (fun x : S41 => (x.f0, x.f1))
theorem k41_mkM (w : World) (base : Nat) (ok : Nat → Prop) (x : S41)  : k41.M w base ok x [.int .i64 x.f0, .int .i64 x.f1] := ⟨[.int .i64 x.f0], [.int .i64 x.f1], rfl, rfl, rfl⟩
end Go.Proofs.Ytjmeignhhheckaa.Q
namespace Go.Proofs.Ytjmeignhhheckaa.H
open Go.RowKit Go.Proofs.YtjmeignhhheckaaW.PrintWords Go.Proofs.YtjmeignhhheckaaW.PrintLast
set_option maxRecDepth 100000
/-- does one of s's bytes from i on stand in t -/
def anyIn (s t : ByteArray) : Bool := s.data.toList.any fun c => t.data.toList.contains c
def Ascii (s : ByteArray) : Prop := ∀ i : Nat, ∀ h : i < s.size, (s[i]'h).toNat < 128
theorem drop_cons (s : ByteArray) (i : Nat) (h : i < s.size) : s.data.toList.drop i = s[i] :: s.data.toList.drop (i + 1) := by
  rw [List.drop_eq_getElem_cons (by simpa using h)]; rfl
theorem drop_end (s : ByteArray) (i : Nat) (h : ¬ i < s.size) : s.data.toList.drop i = [] := by
  rw [List.drop_eq_nil_iff]; simp; omega
theorem byte_eq (a b : UInt8) : ((a.toNat : Int) == (b.toNat : Int)) = (a == b) := by
  rw [Bool.eq_iff_iff]; simp [← UInt8.toNat_inj]; omega
theorem below_iterAt {B : Nat} {w w' : World} (h : Below B w w') {k : Nat} (hk : B ≤ k) (s : ByteArray) (pos : Nat) : Below B w (w'.iterAt k s pos) := Lib.below_iterAt h hk s pos
theorem hasAny_calls (s t : ByteArray) (w : World) (hs : Ascii s) (ht : Ascii t) (hs2 : s.size ≤ 1000) (ht2 : t.size ≤ 1000) :
    Calls Try.prog 158 #[.string s, .string t] w fun e w' => e = .returned (.bool (anyIn s t)) ∧ Below w.heap.size w w' := by
  go_enter Try.func158, Try.ntmps158
  go_wp2
  go_loopw [] (fun wr => ∃ pos, wr.heap[w.heap.size]? = some (.stringIter s pos) ∧ Below w.heap.size w wr ∧ (s.data.toList.drop pos).any (fun c => t.data.toList.contains c) = anyIn s t) (fun wr => s.size - wr.iterPos w.heap.size)
  case atStart =>
    exact ⟨0, World.iter_heap w s 0, (Below.refl _ w).alloc (Nat.le_refl _) _, by simp [anyIn]⟩
  case round =>
    obtain ⟨pos, hit, hb, hinv⟩ := hrel
    obtain ⟨wq, rfl⟩ : ∃ wq : World, wq = wr := ⟨_, rfl⟩
    have HI := Lib.hid hinv
    clear hinv
    by_cases hp : pos < s.size
    · have hnx := fun ty => Lib.run_next_ascii_at (P := Try.prog) wq w.heap.size s pos ty hit hp (hs pos hp)
      have hit2 := Lib.iterAt_heap wq w.heap.size s pos (pos + 1) hit
      have hb2 := below_iterAt hb (k := w.heap.size) (Nat.le_refl _) s (pos + 1)
      have hsz : w.heap.size < wq.heap.size := (Array.getElem?_eq_some_iff.1 hit).1
      have hsz2 : (wq.iterAt w.heap.size s (pos + 1)).heap.size = wq.heap.size := by rw [Lib.iterAt_size]
      have H1 := Lib.hid hit2
      have H2 := Lib.hid hb2
      have H3 := Lib.hid hsz2
      clear hit2 hb2 hb hsz2
      go_wp2
      clear hnx
      have HIT := Lib.hid hit
      clear hit
      generalize wq.iterAt w.heap.size s (pos + 1) = wo at *
      go_loopw [] (fun wr => ∃ q, wr.heap[wo.heap.size]? = some (.stringIter t q) ∧ Below wo.heap.size wo wr ∧ (t.data.toList.drop q).contains s[pos] = t.data.toList.contains s[pos]) (fun wr => t.size - wr.iterPos wo.heap.size)
      case atStart =>
        exact ⟨0, World.iter_heap wo t 0, (Below.refl _ wo).alloc (Nat.le_refl _) _, by simp⟩
      case round =>
        obtain ⟨q, hjt, hc, hinv2⟩ := hrel
        have HI2 := Lib.hid hinv2
        clear hinv2
        by_cases hq : q < t.size
        · have hnx := fun ty => Lib.run_next_ascii_at (P := Try.prog) wr wo.heap.size t q ty hjt hq (ht q hq)
          have hjt2 := Lib.hid (Lib.iterAt_heap wr wo.heap.size t q (q + 1) hjt)
          have hc2 := Lib.hid (below_iterAt hc (k := wo.heap.size) (Nat.le_refl _) t (q + 1))
          clear hc
          by_cases he : s[pos] = t[q]
          · have heb : ((s[pos].toNat : Int) == (t[q].toNat : Int)) = true := by rw [he]; simp
            have hmem : t.data.toList.contains s[pos] = true := by
              rw [he, List.contains_iff_mem]; exact Array.getElem_mem_toList _
            have HM := Lib.hid hmem
            clear hmem
            clear he
            go_wp2
            go_ret
            refine ⟨?_, ?_⟩
            · rw [← HI.out, drop_cons s pos hp]
              rw [List.any_cons, HM.out, Bool.true_or]
              rfl
            · exact H2.out.trans (hc2.out.mono (by rw [H3.out]; omega))
          · have heb : ((s[pos].toNat : Int) == (t[q].toNat : Int)) = false := by
              rw [byte_eq]; simpa using he
            have HE := Lib.hid he
            clear he
            go_wp2
            go_roundw
            case rel =>
              refine ⟨q + 1, hjt2.out, hc2.out, ?_⟩
              rw [← HI2.out, drop_cons t q hq]
              simp [HE.out]
            case measure =>
              simp only [World.iterPos, hjt2.out, hjt]
              omega
        · have hnx := fun ty => Lib.run_next_end_at (P := Try.prog) wr wo.heap.size t q ty hjt hq
          have HC := Lib.hid hc
          clear hc
          go_wp2
          go_roundw
          case rel =>
            refine ⟨pos + 1, (HC.out.block _ (by rw [H3.out]; exact hsz)).trans H1.out, H2.out.trans (HC.out.mono (by rw [H3.out]; omega)), ?_⟩
            rw [← HI.out, drop_cons s pos hp]
            have h0 := HI2.out
            rw [drop_end t q hq] at h0
            have h1 : t.data.toList.contains s[pos] = false := by rw [← h0]; rfl
            rw [List.any_cons, h1, Bool.false_or]
          case measure =>
            have h1 := (HC.out.block _ (by rw [H3.out]; exact hsz)).trans H1.out
            have h2 := HIT.out
            simp only [World.iterPos, h1, h2]
            omega
    · have hnx := fun ty => Lib.run_next_end_at (P := Try.prog) wq w.heap.size s pos ty hit hp
      go_wp2
      go_ret
      refine ⟨?_, hb⟩
      rw [← HI.out, drop_end s pos hp]
      rfl
end Go.Proofs.Ytjmeignhhheckaa.H
namespace Go.Proofs.Ytjmeignhhheckaa.Q
open Go.RowKit Go.Proofs.YtjmeignhhheckaaW.PrintWords Go.Proofs.YtjmeignhhheckaaW.PrintLast Go.Proofs.YtjmeignhhheckaaW.PrintMore
attribute [local go_sem] max2_int min2_int max_two min_two max_three min_three max_four min_four   -- for this text's walks alone
set_option linter.unusedVariables false
set_option linter.unusedSimpArgs false
def ir_shapeOf.f (a0 : Int) : Option (ByteArray × ByteArray) := if a0 = 1 then (some ((⟨#[99, 111, 110, 115, 116]⟩ : ByteArray), (⟨#[65, 110]⟩ : ByteArray))) else (if a0 = 2 then (some ((⟨#[109, 111, 118, 101]⟩ : ByteArray), (⟨#[65, 66]⟩ : ByteArray))) else (if a0 = 3 then (some ((⟨#[99, 97, 108, 99]⟩ : ByteArray), (⟨#[99, 65, 66, 67]⟩ : ByteArray))) else (if a0 = 4 then (some ((⟨#[110, 105, 108]⟩ : ByteArray), (⟨#[66]⟩ : ByteArray))) else (if a0 = 5 then (some ((⟨#[105, 110, 100, 101, 120]⟩ : ByteArray), (⟨#[66, 110]⟩ : ByteArray))) else (if a0 = 6 then (some ((⟨#[115, 104, 97, 114, 101, 100]⟩ : ByteArray), (⟨#[65, 110]⟩ : ByteArray))) else (if a0 = 7 then (some ((⟨#[110, 101, 119]⟩ : ByteArray), (⟨#[65, 110, 115]⟩ : ByteArray))) else (if a0 = 8 then (some ((⟨#[108, 111, 97, 100]⟩ : ByteArray), (⟨#[65, 66, 111, 110]⟩ : ByteArray))) else (if a0 = 9 then (some ((⟨#[115, 116, 111, 114, 101]⟩ : ByteArray), (⟨#[65, 66, 111, 110]⟩ : ByteArray))) else (if a0 = 10 then (some ((⟨#[111, 119, 110, 108, 111, 97, 100]⟩ : ByteArray), (⟨#[65, 66, 111, 110]⟩ : ByteArray))) else (if a0 = 11 then (some ((⟨#[111, 119, 110, 115, 116, 111, 114, 101]⟩ : ByteArray), (⟨#[65, 66, 111, 110]⟩ : ByteArray))) else (if a0 = 12 then (some ((⟨#[112, 114, 105, 110, 116]⟩ : ByteArray), (⟨#[66]⟩ : ByteArray))) else (if a0 = 13 then (some ((⟨#[98, 101, 103, 105, 110]⟩ : ByteArray), (⟨#[]⟩ : ByteArray))) else (if a0 = 14 then (some ((⟨#[101, 110, 100]⟩ : ByteArray), (⟨#[]⟩ : ByteArray))) else (some ((⟨#[]⟩ : ByteArray), (⟨#[]⟩ : ByteArray))))))))))))))))
set_option maxHeartbeats 8000000 in
set_option maxRecDepth 100000 in
theorem ir_shapeOf.calls (a0 : Int) (r1 : ByteArray) (r2 : ByteArray) (w : World) (h : ir_shapeOf.f a0 = some (r1, r2)) :
    Calls Try.prog 133 #[.int .u8 a0] w fun e w' => e = .returned (.agg #[.string r1, .string r2]) ∧ Below w.heap.size w w' := by
  have hu186 := Try.underlying186
  have HB := Aside0.mk (Below.refl w.heap.size w)
  have H : (if a0 = 1 then (some ((⟨#[99, 111, 110, 115, 116]⟩ : ByteArray), (⟨#[65, 110]⟩ : ByteArray))) else (if a0 = 2 then (some ((⟨#[109, 111, 118, 101]⟩ : ByteArray), (⟨#[65, 66]⟩ : ByteArray))) else (if a0 = 3 then (some ((⟨#[99, 97, 108, 99]⟩ : ByteArray), (⟨#[99, 65, 66, 67]⟩ : ByteArray))) else (if a0 = 4 then (some ((⟨#[110, 105, 108]⟩ : ByteArray), (⟨#[66]⟩ : ByteArray))) else (if a0 = 5 then (some ((⟨#[105, 110, 100, 101, 120]⟩ : ByteArray), (⟨#[66, 110]⟩ : ByteArray))) else (if a0 = 6 then (some ((⟨#[115, 104, 97, 114, 101, 100]⟩ : ByteArray), (⟨#[65, 110]⟩ : ByteArray))) else (if a0 = 7 then (some ((⟨#[110, 101, 119]⟩ : ByteArray), (⟨#[65, 110, 115]⟩ : ByteArray))) else (if a0 = 8 then (some ((⟨#[108, 111, 97, 100]⟩ : ByteArray), (⟨#[65, 66, 111, 110]⟩ : ByteArray))) else (if a0 = 9 then (some ((⟨#[115, 116, 111, 114, 101]⟩ : ByteArray), (⟨#[65, 66, 111, 110]⟩ : ByteArray))) else (if a0 = 10 then (some ((⟨#[111, 119, 110, 108, 111, 97, 100]⟩ : ByteArray), (⟨#[65, 66, 111, 110]⟩ : ByteArray))) else (if a0 = 11 then (some ((⟨#[111, 119, 110, 115, 116, 111, 114, 101]⟩ : ByteArray), (⟨#[65, 66, 111, 110]⟩ : ByteArray))) else (if a0 = 12 then (some ((⟨#[112, 114, 105, 110, 116]⟩ : ByteArray), (⟨#[66]⟩ : ByteArray))) else (if a0 = 13 then (some ((⟨#[98, 101, 103, 105, 110]⟩ : ByteArray), (⟨#[]⟩ : ByteArray))) else (if a0 = 14 then (some ((⟨#[101, 110, 100]⟩ : ByteArray), (⟨#[]⟩ : ByteArray))) else (some ((⟨#[]⟩ : ByteArray), (⟨#[]⟩ : ByteArray))))))))))))))))) = some (r1, r2) := h
  clear h
  by_cases c2 : a0 = 1
  · rw [if_pos c2] at H
    have c2b0 : (a0 == 1) = true := beq_iff_eq.mpr c2
    have c2b1 : (a0 != 1) = false := bne_eq_false_iff_eq.mpr c2
    clear c2
    simp only [Option.some.injEq, Prod.mk.injEq] at H
    obtain ⟨rfl, rfl⟩ := H
    go_enter Try.func133, Try.ntmps133
    go_wp2_with (first | ((with_reducible refine gate_dst (N := 2) rfl ?_); refine box_event ?hg (N := 2) ?hd (cs := #[.string (⟨#[]⟩ : ByteArray), .string (⟨#[]⟩ : ByteArray)]) (t := 186) ?hr ?_; (case hd => rfl); (case hg => rfl); (case hr => first | (go_simp; done) | (go_simp; rfl)); intro gb121 hg w3 hbox hb; have n0_ := Aside0.mk (below_step (by repeat (first | (with_reducible first | exact HB.out | apply below_alloc | apply pw_below_drewN | apply below_drew1) | exact HB.out)) hb); have n1_ := Aside0.mk (hbox); have n2_ := Aside0.mk ((by rw [hg]; exact (below_size (by repeat (first | (with_reducible first | exact HB.out | apply below_alloc | apply pw_below_drewN | apply below_drew1) | exact HB.out))) : w.heap.size ≤ gb121)); have n3_ := Aside0.mk ((by rw [hg]; exact (below_size (by repeat (first | (with_reducible first | exact HB.out | apply below_alloc | apply pw_below_drewN | apply below_drew1) | exact HB.out))) : w.heap.size ≤ gb121)); clear HB; have HB := n0_; have BK121 := n1_; have GW121 := n2_; have GE121 := n3_; clear n0_ n1_ n2_ n3_; clear hb hbox hg; have hcz4_0 : w3.cell? ⟨gb121, 0, none⟩ = some (.string (⟨#[]⟩ : ByteArray)) := (blk_cell BK121.out 0).trans rfl; have hcz4_1 : w3.cell? ⟨gb121, 1, none⟩ = some (.string (⟨#[]⟩ : ByteArray)) := (blk_cell BK121.out 1).trans rfl; have hfz4_0 := blk_frozen BK121.out 0; have hfz4_1 := blk_frozen BK121.out 1))
    refine bodyPost_ret (results_cell_row rfl _ _ gb121 186 #[.string (⟨#[99, 111, 110, 115, 116]⟩ : ByteArray), .string (⟨#[65, 110]⟩ : ByteArray)] (0, 0) _ rfl (by (with_reducible repeat (first | refine blk_drewN ?_ _ | refine blk_drew ?_ | refine blk_alloc ?_ _)); refine blk_put (cs := #[.string (⟨#[99, 111, 110, 115, 116]⟩ : ByteArray), .string (⟨#[]⟩ : ByteArray)]) ?_ 1 _ rfl; (with_reducible repeat (first | refine blk_drewN ?_ _ | refine blk_drew ?_ | refine blk_alloc ?_ _)); refine blk_put (cs := #[.string (⟨#[]⟩ : ByteArray), .string (⟨#[]⟩ : ByteArray)]) ?_ 0 _ rfl; (with_reducible repeat (first | refine blk_drewN ?_ _ | refine blk_drew ?_ | refine blk_alloc ?_ _)); exact BK121.out) Try.underlying186 rfl (by kernel_rfl)) rfl ?_
    exact ⟨by first | rfl | (simp [errW_none, errW_some] <;> rfl) | (simp [*, errW_none, errW_some] <;> rfl), by repeat (first | (with_reducible first | exact HB.out | apply below_alloc | apply pw_below_drewN | apply below_drew1 | refine below_set ?_ GE121.out) | exact HB.out)⟩
  · rw [if_neg c2] at H
    have c2b0 : (a0 == 1) = false := beq_eq_false_iff_ne.mpr c2
    have c2b1 : (a0 != 1) = true := bne_iff_ne.mpr c2
    by_cases c5 : a0 = 2
    · rw [if_pos c5] at H
      have c5b0 : (a0 == 2) = true := beq_iff_eq.mpr c5
      have c5b1 : (a0 != 2) = false := bne_eq_false_iff_eq.mpr c5
      clear c5
      simp only [Option.some.injEq, Prod.mk.injEq] at H
      obtain ⟨rfl, rfl⟩ := H
      go_enter Try.func133, Try.ntmps133
      go_wp2_with (first | ((with_reducible refine gate_dst (N := 2) rfl ?_); refine box_event ?hg (N := 2) ?hd (cs := #[.string (⟨#[]⟩ : ByteArray), .string (⟨#[]⟩ : ByteArray)]) (t := 186) ?hr ?_; (case hd => rfl); (case hg => rfl); (case hr => first | (go_simp; done) | (go_simp; rfl)); intro gb121 hg w6 hbox hb; have n0_ := Aside0.mk (below_step (by repeat (first | (with_reducible first | exact HB.out | apply below_alloc | apply pw_below_drewN | apply below_drew1) | exact HB.out)) hb); have n1_ := Aside0.mk (hbox); have n2_ := Aside0.mk ((by rw [hg]; exact (below_size (by repeat (first | (with_reducible first | exact HB.out | apply below_alloc | apply pw_below_drewN | apply below_drew1) | exact HB.out))) : w.heap.size ≤ gb121)); have n3_ := Aside0.mk ((by rw [hg]; exact (below_size (by repeat (first | (with_reducible first | exact HB.out | apply below_alloc | apply pw_below_drewN | apply below_drew1) | exact HB.out))) : w.heap.size ≤ gb121)); clear HB; have HB := n0_; have BK121 := n1_; have GW121 := n2_; have GE121 := n3_; clear n0_ n1_ n2_ n3_; clear hb hbox hg; have hcz7_0 : w6.cell? ⟨gb121, 0, none⟩ = some (.string (⟨#[]⟩ : ByteArray)) := (blk_cell BK121.out 0).trans rfl; have hcz7_1 : w6.cell? ⟨gb121, 1, none⟩ = some (.string (⟨#[]⟩ : ByteArray)) := (blk_cell BK121.out 1).trans rfl; have hfz7_0 := blk_frozen BK121.out 0; have hfz7_1 := blk_frozen BK121.out 1))
      refine bodyPost_ret (results_cell_row rfl _ _ gb121 186 #[.string (⟨#[109, 111, 118, 101]⟩ : ByteArray), .string (⟨#[65, 66]⟩ : ByteArray)] (0, 0) _ rfl (by (with_reducible repeat (first | refine blk_drewN ?_ _ | refine blk_drew ?_ | refine blk_alloc ?_ _)); refine blk_put (cs := #[.string (⟨#[109, 111, 118, 101]⟩ : ByteArray), .string (⟨#[]⟩ : ByteArray)]) ?_ 1 _ rfl; (with_reducible repeat (first | refine blk_drewN ?_ _ | refine blk_drew ?_ | refine blk_alloc ?_ _)); refine blk_put (cs := #[.string (⟨#[]⟩ : ByteArray), .string (⟨#[]⟩ : ByteArray)]) ?_ 0 _ rfl; (with_reducible repeat (first | refine blk_drewN ?_ _ | refine blk_drew ?_ | refine blk_alloc ?_ _)); exact BK121.out) Try.underlying186 rfl (by kernel_rfl)) rfl ?_
      exact ⟨by first | rfl | (simp [errW_none, errW_some] <;> rfl) | (simp [*, errW_none, errW_some] <;> rfl), by repeat (first | (with_reducible first | exact HB.out | apply below_alloc | apply pw_below_drewN | apply below_drew1 | refine below_set ?_ GE121.out) | exact HB.out)⟩
    · rw [if_neg c5] at H
      have c5b0 : (a0 == 2) = false := beq_eq_false_iff_ne.mpr c5
      have c5b1 : (a0 != 2) = true := bne_iff_ne.mpr c5
      by_cases c8 : a0 = 3
      · rw [if_pos c8] at H
        have c8b0 : (a0 == 3) = true := beq_iff_eq.mpr c8
        have c8b1 : (a0 != 3) = false := bne_eq_false_iff_eq.mpr c8
        clear c8
        simp only [Option.some.injEq, Prod.mk.injEq] at H
        obtain ⟨rfl, rfl⟩ := H
        go_enter Try.func133, Try.ntmps133
        go_wp2_with (first | ((with_reducible refine gate_dst (N := 2) rfl ?_); refine box_event ?hg (N := 2) ?hd (cs := #[.string (⟨#[]⟩ : ByteArray), .string (⟨#[]⟩ : ByteArray)]) (t := 186) ?hr ?_; (case hd => rfl); (case hg => rfl); (case hr => first | (go_simp; done) | (go_simp; rfl)); intro gb121 hg w9 hbox hb; have n0_ := Aside0.mk (below_step (by repeat (first | (with_reducible first | exact HB.out | apply below_alloc | apply pw_below_drewN | apply below_drew1) | exact HB.out)) hb); have n1_ := Aside0.mk (hbox); have n2_ := Aside0.mk ((by rw [hg]; exact (below_size (by repeat (first | (with_reducible first | exact HB.out | apply below_alloc | apply pw_below_drewN | apply below_drew1) | exact HB.out))) : w.heap.size ≤ gb121)); have n3_ := Aside0.mk ((by rw [hg]; exact (below_size (by repeat (first | (with_reducible first | exact HB.out | apply below_alloc | apply pw_below_drewN | apply below_drew1) | exact HB.out))) : w.heap.size ≤ gb121)); clear HB; have HB := n0_; have BK121 := n1_; have GW121 := n2_; have GE121 := n3_; clear n0_ n1_ n2_ n3_; clear hb hbox hg; have hcz10_0 : w9.cell? ⟨gb121, 0, none⟩ = some (.string (⟨#[]⟩ : ByteArray)) := (blk_cell BK121.out 0).trans rfl; have hcz10_1 : w9.cell? ⟨gb121, 1, none⟩ = some (.string (⟨#[]⟩ : ByteArray)) := (blk_cell BK121.out 1).trans rfl; have hfz10_0 := blk_frozen BK121.out 0; have hfz10_1 := blk_frozen BK121.out 1))
        refine bodyPost_ret (results_cell_row rfl _ _ gb121 186 #[.string (⟨#[99, 97, 108, 99]⟩ : ByteArray), .string (⟨#[99, 65, 66, 67]⟩ : ByteArray)] (0, 0) _ rfl (by (with_reducible repeat (first | refine blk_drewN ?_ _ | refine blk_drew ?_ | refine blk_alloc ?_ _)); refine blk_put (cs := #[.string (⟨#[99, 97, 108, 99]⟩ : ByteArray), .string (⟨#[]⟩ : ByteArray)]) ?_ 1 _ rfl; (with_reducible repeat (first | refine blk_drewN ?_ _ | refine blk_drew ?_ | refine blk_alloc ?_ _)); refine blk_put (cs := #[.string (⟨#[]⟩ : ByteArray), .string (⟨#[]⟩ : ByteArray)]) ?_ 0 _ rfl; (with_reducible repeat (first | refine blk_drewN ?_ _ | refine blk_drew ?_ | refine blk_alloc ?_ _)); exact BK121.out) Try.underlying186 rfl (by kernel_rfl)) rfl ?_
        exact ⟨by first | rfl | (simp [errW_none, errW_some] <;> rfl) | (simp [*, errW_none, errW_some] <;> rfl), by repeat (first | (with_reducible first | exact HB.out | apply below_alloc | apply pw_below_drewN | apply below_drew1 | refine below_set ?_ GE121.out) | exact HB.out)⟩
      · rw [if_neg c8] at H
        have c8b0 : (a0 == 3) = false := beq_eq_false_iff_ne.mpr c8
        have c8b1 : (a0 != 3) = true := bne_iff_ne.mpr c8
        by_cases c11 : a0 = 4
        · rw [if_pos c11] at H
          have c11b0 : (a0 == 4) = true := beq_iff_eq.mpr c11
          have c11b1 : (a0 != 4) = false := bne_eq_false_iff_eq.mpr c11
          clear c11
          simp only [Option.some.injEq, Prod.mk.injEq] at H
          obtain ⟨rfl, rfl⟩ := H
          go_enter Try.func133, Try.ntmps133
          go_wp2_with (first | ((with_reducible refine gate_dst (N := 2) rfl ?_); refine box_event ?hg (N := 2) ?hd (cs := #[.string (⟨#[]⟩ : ByteArray), .string (⟨#[]⟩ : ByteArray)]) (t := 186) ?hr ?_; (case hd => rfl); (case hg => rfl); (case hr => first | (go_simp; done) | (go_simp; rfl)); intro gb121 hg w12 hbox hb; have n0_ := Aside0.mk (below_step (by repeat (first | (with_reducible first | exact HB.out | apply below_alloc | apply pw_below_drewN | apply below_drew1) | exact HB.out)) hb); have n1_ := Aside0.mk (hbox); have n2_ := Aside0.mk ((by rw [hg]; exact (below_size (by repeat (first | (with_reducible first | exact HB.out | apply below_alloc | apply pw_below_drewN | apply below_drew1) | exact HB.out))) : w.heap.size ≤ gb121)); have n3_ := Aside0.mk ((by rw [hg]; exact (below_size (by repeat (first | (with_reducible first | exact HB.out | apply below_alloc | apply pw_below_drewN | apply below_drew1) | exact HB.out))) : w.heap.size ≤ gb121)); clear HB; have HB := n0_; have BK121 := n1_; have GW121 := n2_; have GE121 := n3_; clear n0_ n1_ n2_ n3_; clear hb hbox hg; have hcz13_0 : w12.cell? ⟨gb121, 0, none⟩ = some (.string (⟨#[]⟩ : ByteArray)) := (blk_cell BK121.out 0).trans rfl; have hcz13_1 : w12.cell? ⟨gb121, 1, none⟩ = some (.string (⟨#[]⟩ : ByteArray)) := (blk_cell BK121.out 1).trans rfl; have hfz13_0 := blk_frozen BK121.out 0; have hfz13_1 := blk_frozen BK121.out 1))
          refine bodyPost_ret (results_cell_row rfl _ _ gb121 186 #[.string (⟨#[110, 105, 108]⟩ : ByteArray), .string (⟨#[66]⟩ : ByteArray)] (0, 0) _ rfl (by (with_reducible repeat (first | refine blk_drewN ?_ _ | refine blk_drew ?_ | refine blk_alloc ?_ _)); refine blk_put (cs := #[.string (⟨#[110, 105, 108]⟩ : ByteArray), .string (⟨#[]⟩ : ByteArray)]) ?_ 1 _ rfl; (with_reducible repeat (first | refine blk_drewN ?_ _ | refine blk_drew ?_ | refine blk_alloc ?_ _)); refine blk_put (cs := #[.string (⟨#[]⟩ : ByteArray), .string (⟨#[]⟩ : ByteArray)]) ?_ 0 _ rfl; (with_reducible repeat (first | refine blk_drewN ?_ _ | refine blk_drew ?_ | refine blk_alloc ?_ _)); exact BK121.out) Try.underlying186 rfl (by kernel_rfl)) rfl ?_
          exact ⟨by first | rfl | (simp [errW_none, errW_some] <;> rfl) | (simp [*, errW_none, errW_some] <;> rfl), by repeat (first | (with_reducible first | exact HB.out | apply below_alloc | apply pw_below_drewN | apply below_drew1 | refine below_set ?_ GE121.out) | exact HB.out)⟩
        · rw [if_neg c11] at H
          have c11b0 : (a0 == 4) = false := beq_eq_false_iff_ne.mpr c11
          have c11b1 : (a0 != 4) = true := bne_iff_ne.mpr c11
          by_cases c14 : a0 = 5
          · rw [if_pos c14] at H
            have c14b0 : (a0 == 5) = true := beq_iff_eq.mpr c14
            have c14b1 : (a0 != 5) = false := bne_eq_false_iff_eq.mpr c14
            clear c14
            simp only [Option.some.injEq, Prod.mk.injEq] at H
            obtain ⟨rfl, rfl⟩ := H
            go_enter Try.func133, Try.ntmps133
            go_wp2_with (first | ((with_reducible refine gate_dst (N := 2) rfl ?_); refine box_event ?hg (N := 2) ?hd (cs := #[.string (⟨#[]⟩ : ByteArray), .string (⟨#[]⟩ : ByteArray)]) (t := 186) ?hr ?_; (case hd => rfl); (case hg => rfl); (case hr => first | (go_simp; done) | (go_simp; rfl)); intro gb121 hg w15 hbox hb; have n0_ := Aside0.mk (below_step (by repeat (first | (with_reducible first | exact HB.out | apply below_alloc | apply pw_below_drewN | apply below_drew1) | exact HB.out)) hb); have n1_ := Aside0.mk (hbox); have n2_ := Aside0.mk ((by rw [hg]; exact (below_size (by repeat (first | (with_reducible first | exact HB.out | apply below_alloc | apply pw_below_drewN | apply below_drew1) | exact HB.out))) : w.heap.size ≤ gb121)); have n3_ := Aside0.mk ((by rw [hg]; exact (below_size (by repeat (first | (with_reducible first | exact HB.out | apply below_alloc | apply pw_below_drewN | apply below_drew1) | exact HB.out))) : w.heap.size ≤ gb121)); clear HB; have HB := n0_; have BK121 := n1_; have GW121 := n2_; have GE121 := n3_; clear n0_ n1_ n2_ n3_; clear hb hbox hg; have hcz16_0 : w15.cell? ⟨gb121, 0, none⟩ = some (.string (⟨#[]⟩ : ByteArray)) := (blk_cell BK121.out 0).trans rfl; have hcz16_1 : w15.cell? ⟨gb121, 1, none⟩ = some (.string (⟨#[]⟩ : ByteArray)) := (blk_cell BK121.out 1).trans rfl; have hfz16_0 := blk_frozen BK121.out 0; have hfz16_1 := blk_frozen BK121.out 1))
            refine bodyPost_ret (results_cell_row rfl _ _ gb121 186 #[.string (⟨#[105, 110, 100, 101, 120]⟩ : ByteArray), .string (⟨#[66, 110]⟩ : ByteArray)] (0, 0) _ rfl (by (with_reducible repeat (first | refine blk_drewN ?_ _ | refine blk_drew ?_ | refine blk_alloc ?_ _)); refine blk_put (cs := #[.string (⟨#[105, 110, 100, 101, 120]⟩ : ByteArray), .string (⟨#[]⟩ : ByteArray)]) ?_ 1 _ rfl; (with_reducible repeat (first | refine blk_drewN ?_ _ | refine blk_drew ?_ | refine blk_alloc ?_ _)); refine blk_put (cs := #[.string (⟨#[]⟩ : ByteArray), .string (⟨#[]⟩ : ByteArray)]) ?_ 0 _ rfl; (with_reducible repeat (first | refine blk_drewN ?_ _ | refine blk_drew ?_ | refine blk_alloc ?_ _)); exact BK121.out) Try.underlying186 rfl (by kernel_rfl)) rfl ?_
            exact ⟨by first | rfl | (simp [errW_none, errW_some] <;> rfl) | (simp [*, errW_none, errW_some] <;> rfl), by repeat (first | (with_reducible first | exact HB.out | apply below_alloc | apply pw_below_drewN | apply below_drew1 | refine below_set ?_ GE121.out) | exact HB.out)⟩
          · rw [if_neg c14] at H
            have c14b0 : (a0 == 5) = false := beq_eq_false_iff_ne.mpr c14
            have c14b1 : (a0 != 5) = true := bne_iff_ne.mpr c14
            by_cases c17 : a0 = 6
            · rw [if_pos c17] at H
              have c17b0 : (a0 == 6) = true := beq_iff_eq.mpr c17
              have c17b1 : (a0 != 6) = false := bne_eq_false_iff_eq.mpr c17
              clear c17
              simp only [Option.some.injEq, Prod.mk.injEq] at H
              obtain ⟨rfl, rfl⟩ := H
              go_enter Try.func133, Try.ntmps133
              go_wp2_with (first | ((with_reducible refine gate_dst (N := 2) rfl ?_); refine box_event ?hg (N := 2) ?hd (cs := #[.string (⟨#[]⟩ : ByteArray), .string (⟨#[]⟩ : ByteArray)]) (t := 186) ?hr ?_; (case hd => rfl); (case hg => rfl); (case hr => first | (go_simp; done) | (go_simp; rfl)); intro gb121 hg w18 hbox hb; have n0_ := Aside0.mk (below_step (by repeat (first | (with_reducible first | exact HB.out | apply below_alloc | apply pw_below_drewN | apply below_drew1) | exact HB.out)) hb); have n1_ := Aside0.mk (hbox); have n2_ := Aside0.mk ((by rw [hg]; exact (below_size (by repeat (first | (with_reducible first | exact HB.out | apply below_alloc | apply pw_below_drewN | apply below_drew1) | exact HB.out))) : w.heap.size ≤ gb121)); have n3_ := Aside0.mk ((by rw [hg]; exact (below_size (by repeat (first | (with_reducible first | exact HB.out | apply below_alloc | apply pw_below_drewN | apply below_drew1) | exact HB.out))) : w.heap.size ≤ gb121)); clear HB; have HB := n0_; have BK121 := n1_; have GW121 := n2_; have GE121 := n3_; clear n0_ n1_ n2_ n3_; clear hb hbox hg; have hcz19_0 : w18.cell? ⟨gb121, 0, none⟩ = some (.string (⟨#[]⟩ : ByteArray)) := (blk_cell BK121.out 0).trans rfl; have hcz19_1 : w18.cell? ⟨gb121, 1, none⟩ = some (.string (⟨#[]⟩ : ByteArray)) := (blk_cell BK121.out 1).trans rfl; have hfz19_0 := blk_frozen BK121.out 0; have hfz19_1 := blk_frozen BK121.out 1))
              refine bodyPost_ret (results_cell_row rfl _ _ gb121 186 #[.string (⟨#[115, 104, 97, 114, 101, 100]⟩ : ByteArray), .string (⟨#[65, 110]⟩ : ByteArray)] (0, 0) _ rfl (by (with_reducible repeat (first | refine blk_drewN ?_ _ | refine blk_drew ?_ | refine blk_alloc ?_ _)); refine blk_put (cs := #[.string (⟨#[115, 104, 97, 114, 101, 100]⟩ : ByteArray), .string (⟨#[]⟩ : ByteArray)]) ?_ 1 _ rfl; (with_reducible repeat (first | refine blk_drewN ?_ _ | refine blk_drew ?_ | refine blk_alloc ?_ _)); refine blk_put (cs := #[.string (⟨#[]⟩ : ByteArray), .string (⟨#[]⟩ : ByteArray)]) ?_ 0 _ rfl; (with_reducible repeat (first | refine blk_drewN ?_ _ | refine blk_drew ?_ | refine blk_alloc ?_ _)); exact BK121.out) Try.underlying186 rfl (by kernel_rfl)) rfl ?_
              exact ⟨by first | rfl | (simp [errW_none, errW_some] <;> rfl) | (simp [*, errW_none, errW_some] <;> rfl), by repeat (first | (with_reducible first | exact HB.out | apply below_alloc | apply pw_below_drewN | apply below_drew1 | refine below_set ?_ GE121.out) | exact HB.out)⟩
            · rw [if_neg c17] at H
              have c17b0 : (a0 == 6) = false := beq_eq_false_iff_ne.mpr c17
              have c17b1 : (a0 != 6) = true := bne_iff_ne.mpr c17
              by_cases c20 : a0 = 7
              · rw [if_pos c20] at H
                have c20b0 : (a0 == 7) = true := beq_iff_eq.mpr c20
                have c20b1 : (a0 != 7) = false := bne_eq_false_iff_eq.mpr c20
                clear c20
                simp only [Option.some.injEq, Prod.mk.injEq] at H
                obtain ⟨rfl, rfl⟩ := H
                go_enter Try.func133, Try.ntmps133
                go_wp2_with (first | ((with_reducible refine gate_dst (N := 2) rfl ?_); refine box_event ?hg (N := 2) ?hd (cs := #[.string (⟨#[]⟩ : ByteArray), .string (⟨#[]⟩ : ByteArray)]) (t := 186) ?hr ?_; (case hd => rfl); (case hg => rfl); (case hr => first | (go_simp; done) | (go_simp; rfl)); intro gb121 hg w21 hbox hb; have n0_ := Aside0.mk (below_step (by repeat (first | (with_reducible first | exact HB.out | apply below_alloc | apply pw_below_drewN | apply below_drew1) | exact HB.out)) hb); have n1_ := Aside0.mk (hbox); have n2_ := Aside0.mk ((by rw [hg]; exact (below_size (by repeat (first | (with_reducible first | exact HB.out | apply below_alloc | apply pw_below_drewN | apply below_drew1) | exact HB.out))) : w.heap.size ≤ gb121)); have n3_ := Aside0.mk ((by rw [hg]; exact (below_size (by repeat (first | (with_reducible first | exact HB.out | apply below_alloc | apply pw_below_drewN | apply below_drew1) | exact HB.out))) : w.heap.size ≤ gb121)); clear HB; have HB := n0_; have BK121 := n1_; have GW121 := n2_; have GE121 := n3_; clear n0_ n1_ n2_ n3_; clear hb hbox hg; have hcz22_0 : w21.cell? ⟨gb121, 0, none⟩ = some (.string (⟨#[]⟩ : ByteArray)) := (blk_cell BK121.out 0).trans rfl; have hcz22_1 : w21.cell? ⟨gb121, 1, none⟩ = some (.string (⟨#[]⟩ : ByteArray)) := (blk_cell BK121.out 1).trans rfl; have hfz22_0 := blk_frozen BK121.out 0; have hfz22_1 := blk_frozen BK121.out 1))
                refine bodyPost_ret (results_cell_row rfl _ _ gb121 186 #[.string (⟨#[110, 101, 119]⟩ : ByteArray), .string (⟨#[65, 110, 115]⟩ : ByteArray)] (0, 0) _ rfl (by (with_reducible repeat (first | refine blk_drewN ?_ _ | refine blk_drew ?_ | refine blk_alloc ?_ _)); refine blk_put (cs := #[.string (⟨#[110, 101, 119]⟩ : ByteArray), .string (⟨#[]⟩ : ByteArray)]) ?_ 1 _ rfl; (with_reducible repeat (first | refine blk_drewN ?_ _ | refine blk_drew ?_ | refine blk_alloc ?_ _)); refine blk_put (cs := #[.string (⟨#[]⟩ : ByteArray), .string (⟨#[]⟩ : ByteArray)]) ?_ 0 _ rfl; (with_reducible repeat (first | refine blk_drewN ?_ _ | refine blk_drew ?_ | refine blk_alloc ?_ _)); exact BK121.out) Try.underlying186 rfl (by kernel_rfl)) rfl ?_
                exact ⟨by first | rfl | (simp [errW_none, errW_some] <;> rfl) | (simp [*, errW_none, errW_some] <;> rfl), by repeat (first | (with_reducible first | exact HB.out | apply below_alloc | apply pw_below_drewN | apply below_drew1 | refine below_set ?_ GE121.out) | exact HB.out)⟩
              · rw [if_neg c20] at H
                have c20b0 : (a0 == 7) = false := beq_eq_false_iff_ne.mpr c20
                have c20b1 : (a0 != 7) = true := bne_iff_ne.mpr c20
                by_cases c23 : a0 = 8
                · rw [if_pos c23] at H
                  have c23b0 : (a0 == 8) = true := beq_iff_eq.mpr c23
                  have c23b1 : (a0 != 8) = false := bne_eq_false_iff_eq.mpr c23
                  clear c23
                  simp only [Option.some.injEq, Prod.mk.injEq] at H
                  obtain ⟨rfl, rfl⟩ := H
                  go_enter Try.func133, Try.ntmps133
                  go_wp2_with (first | ((with_reducible refine gate_dst (N := 2) rfl ?_); refine box_event ?hg (N := 2) ?hd (cs := #[.string (⟨#[]⟩ : ByteArray), .string (⟨#[]⟩ : ByteArray)]) (t := 186) ?hr ?_; (case hd => rfl); (case hg => rfl); (case hr => first | (go_simp; done) | (go_simp; rfl)); intro gb121 hg w24 hbox hb; have n0_ := Aside0.mk (below_step (by repeat (first | (with_reducible first | exact HB.out | apply below_alloc | apply pw_below_drewN | apply below_drew1) | exact HB.out)) hb); have n1_ := Aside0.mk (hbox); have n2_ := Aside0.mk ((by rw [hg]; exact (below_size (by repeat (first | (with_reducible first | exact HB.out | apply below_alloc | apply pw_below_drewN | apply below_drew1) | exact HB.out))) : w.heap.size ≤ gb121)); have n3_ := Aside0.mk ((by rw [hg]; exact (below_size (by repeat (first | (with_reducible first | exact HB.out | apply below_alloc | apply pw_below_drewN | apply below_drew1) | exact HB.out))) : w.heap.size ≤ gb121)); clear HB; have HB := n0_; have BK121 := n1_; have GW121 := n2_; have GE121 := n3_; clear n0_ n1_ n2_ n3_; clear hb hbox hg; have hcz25_0 : w24.cell? ⟨gb121, 0, none⟩ = some (.string (⟨#[]⟩ : ByteArray)) := (blk_cell BK121.out 0).trans rfl; have hcz25_1 : w24.cell? ⟨gb121, 1, none⟩ = some (.string (⟨#[]⟩ : ByteArray)) := (blk_cell BK121.out 1).trans rfl; have hfz25_0 := blk_frozen BK121.out 0; have hfz25_1 := blk_frozen BK121.out 1))
                  refine bodyPost_ret (results_cell_row rfl _ _ gb121 186 #[.string (⟨#[108, 111, 97, 100]⟩ : ByteArray), .string (⟨#[65, 66, 111, 110]⟩ : ByteArray)] (0, 0) _ rfl (by (with_reducible repeat (first | refine blk_drewN ?_ _ | refine blk_drew ?_ | refine blk_alloc ?_ _)); refine blk_put (cs := #[.string (⟨#[108, 111, 97, 100]⟩ : ByteArray), .string (⟨#[]⟩ : ByteArray)]) ?_ 1 _ rfl; (with_reducible repeat (first | refine blk_drewN ?_ _ | refine blk_drew ?_ | refine blk_alloc ?_ _)); refine blk_put (cs := #[.string (⟨#[]⟩ : ByteArray), .string (⟨#[]⟩ : ByteArray)]) ?_ 0 _ rfl; (with_reducible repeat (first | refine blk_drewN ?_ _ | refine blk_drew ?_ | refine blk_alloc ?_ _)); exact BK121.out) Try.underlying186 rfl (by kernel_rfl)) rfl ?_
                  exact ⟨by first | rfl | (simp [errW_none, errW_some] <;> rfl) | (simp [*, errW_none, errW_some] <;> rfl), by repeat (first | (with_reducible first | exact HB.out | apply below_alloc | apply pw_below_drewN | apply below_drew1 | refine below_set ?_ GE121.out) | exact HB.out)⟩
                · rw [if_neg c23] at H
                  have c23b0 : (a0 == 8) = false := beq_eq_false_iff_ne.mpr c23
                  have c23b1 : (a0 != 8) = true := bne_iff_ne.mpr c23
                  by_cases c26 : a0 = 9
                  · rw [if_pos c26] at H
                    have c26b0 : (a0 == 9) = true := beq_iff_eq.mpr c26
                    have c26b1 : (a0 != 9) = false := bne_eq_false_iff_eq.mpr c26
                    clear c26
                    simp only [Option.some.injEq, Prod.mk.injEq] at H
                    obtain ⟨rfl, rfl⟩ := H
                    go_enter Try.func133, Try.ntmps133
                    go_wp2_with (first | ((with_reducible refine gate_dst (N := 2) rfl ?_); refine box_event ?hg (N := 2) ?hd (cs := #[.string (⟨#[]⟩ : ByteArray), .string (⟨#[]⟩ : ByteArray)]) (t := 186) ?hr ?_; (case hd => rfl); (case hg => rfl); (case hr => first | (go_simp; done) | (go_simp; rfl)); intro gb121 hg w27 hbox hb; have n0_ := Aside0.mk (below_step (by repeat (first | (with_reducible first | exact HB.out | apply below_alloc | apply pw_below_drewN | apply below_drew1) | exact HB.out)) hb); have n1_ := Aside0.mk (hbox); have n2_ := Aside0.mk ((by rw [hg]; exact (below_size (by repeat (first | (with_reducible first | exact HB.out | apply below_alloc | apply pw_below_drewN | apply below_drew1) | exact HB.out))) : w.heap.size ≤ gb121)); have n3_ := Aside0.mk ((by rw [hg]; exact (below_size (by repeat (first | (with_reducible first | exact HB.out | apply below_alloc | apply pw_below_drewN | apply below_drew1) | exact HB.out))) : w.heap.size ≤ gb121)); clear HB; have HB := n0_; have BK121 := n1_; have GW121 := n2_; have GE121 := n3_; clear n0_ n1_ n2_ n3_; clear hb hbox hg; have hcz28_0 : w27.cell? ⟨gb121, 0, none⟩ = some (.string (⟨#[]⟩ : ByteArray)) := (blk_cell BK121.out 0).trans rfl; have hcz28_1 : w27.cell? ⟨gb121, 1, none⟩ = some (.string (⟨#[]⟩ : ByteArray)) := (blk_cell BK121.out 1).trans rfl; have hfz28_0 := blk_frozen BK121.out 0; have hfz28_1 := blk_frozen BK121.out 1))
                    refine bodyPost_ret (results_cell_row rfl _ _ gb121 186 #[.string (⟨#[115, 116, 111, 114, 101]⟩ : ByteArray), .string (⟨#[65, 66, 111, 110]⟩ : ByteArray)] (0, 0) _ rfl (by (with_reducible repeat (first | refine blk_drewN ?_ _ | refine blk_drew ?_ | refine blk_alloc ?_ _)); refine blk_put (cs := #[.string (⟨#[115, 116, 111, 114, 101]⟩ : ByteArray), .string (⟨#[]⟩ : ByteArray)]) ?_ 1 _ rfl; (with_reducible repeat (first | refine blk_drewN ?_ _ | refine blk_drew ?_ | refine blk_alloc ?_ _)); refine blk_put (cs := #[.string (⟨#[]⟩ : ByteArray), .string (⟨#[]⟩ : ByteArray)]) ?_ 0 _ rfl; (with_reducible repeat (first | refine blk_drewN ?_ _ | refine blk_drew ?_ | refine blk_alloc ?_ _)); exact BK121.out) Try.underlying186 rfl (by kernel_rfl)) rfl ?_
                    exact ⟨by first | rfl | (simp [errW_none, errW_some] <;> rfl) | (simp [*, errW_none, errW_some] <;> rfl), by repeat (first | (with_reducible first | exact HB.out | apply below_alloc | apply pw_below_drewN | apply below_drew1 | refine below_set ?_ GE121.out) | exact HB.out)⟩
                  · rw [if_neg c26] at H
                    have c26b0 : (a0 == 9) = false := beq_eq_false_iff_ne.mpr c26
                    have c26b1 : (a0 != 9) = true := bne_iff_ne.mpr c26
                    by_cases c29 : a0 = 10
                    · rw [if_pos c29] at H
                      have c29b0 : (a0 == 10) = true := beq_iff_eq.mpr c29
                      have c29b1 : (a0 != 10) = false := bne_eq_false_iff_eq.mpr c29
                      clear c29
                      simp only [Option.some.injEq, Prod.mk.injEq] at H
                      obtain ⟨rfl, rfl⟩ := H
                      go_enter Try.func133, Try.ntmps133
                      go_wp2_with (first | ((with_reducible refine gate_dst (N := 2) rfl ?_); refine box_event ?hg (N := 2) ?hd (cs := #[.string (⟨#[]⟩ : ByteArray), .string (⟨#[]⟩ : ByteArray)]) (t := 186) ?hr ?_; (case hd => rfl); (case hg => rfl); (case hr => first | (go_simp; done) | (go_simp; rfl)); intro gb121 hg w30 hbox hb; have n0_ := Aside0.mk (below_step (by repeat (first | (with_reducible first | exact HB.out | apply below_alloc | apply pw_below_drewN | apply below_drew1) | exact HB.out)) hb); have n1_ := Aside0.mk (hbox); have n2_ := Aside0.mk ((by rw [hg]; exact (below_size (by repeat (first | (with_reducible first | exact HB.out | apply below_alloc | apply pw_below_drewN | apply below_drew1) | exact HB.out))) : w.heap.size ≤ gb121)); have n3_ := Aside0.mk ((by rw [hg]; exact (below_size (by repeat (first | (with_reducible first | exact HB.out | apply below_alloc | apply pw_below_drewN | apply below_drew1) | exact HB.out))) : w.heap.size ≤ gb121)); clear HB; have HB := n0_; have BK121 := n1_; have GW121 := n2_; have GE121 := n3_; clear n0_ n1_ n2_ n3_; clear hb hbox hg; have hcz31_0 : w30.cell? ⟨gb121, 0, none⟩ = some (.string (⟨#[]⟩ : ByteArray)) := (blk_cell BK121.out 0).trans rfl; have hcz31_1 : w30.cell? ⟨gb121, 1, none⟩ = some (.string (⟨#[]⟩ : ByteArray)) := (blk_cell BK121.out 1).trans rfl; have hfz31_0 := blk_frozen BK121.out 0; have hfz31_1 := blk_frozen BK121.out 1))
                      refine bodyPost_ret (results_cell_row rfl _ _ gb121 186 #[.string (⟨#[111, 119, 110, 108, 111, 97, 100]⟩ : ByteArray), .string (⟨#[65, 66, 111, 110]⟩ : ByteArray)] (0, 0) _ rfl (by (with_reducible repeat (first | refine blk_drewN ?_ _ | refine blk_drew ?_ | refine blk_alloc ?_ _)); refine blk_put (cs := #[.string (⟨#[111, 119, 110, 108, 111, 97, 100]⟩ : ByteArray), .string (⟨#[]⟩ : ByteArray)]) ?_ 1 _ rfl; (with_reducible repeat (first | refine blk_drewN ?_ _ | refine blk_drew ?_ | refine blk_alloc ?_ _)); refine blk_put (cs := #[.string (⟨#[]⟩ : ByteArray), .string (⟨#[]⟩ : ByteArray)]) ?_ 0 _ rfl; (with_reducible repeat (first | refine blk_drewN ?_ _ | refine blk_drew ?_ | refine blk_alloc ?_ _)); exact BK121.out) Try.underlying186 rfl (by kernel_rfl)) rfl ?_
                      exact ⟨by first | rfl | (simp [errW_none, errW_some] <;> rfl) | (simp [*, errW_none, errW_some] <;> rfl), by repeat (first | (with_reducible first | exact HB.out | apply below_alloc | apply pw_below_drewN | apply below_drew1 | refine below_set ?_ GE121.out) | exact HB.out)⟩
                    · rw [if_neg c29] at H
                      have c29b0 : (a0 == 10) = false := beq_eq_false_iff_ne.mpr c29
                      have c29b1 : (a0 != 10) = true := bne_iff_ne.mpr c29
                      by_cases c32 : a0 = 11
                      · rw [if_pos c32] at H
                        have c32b0 : (a0 == 11) = true := beq_iff_eq.mpr c32
                        have c32b1 : (a0 != 11) = false := bne_eq_false_iff_eq.mpr c32
                        clear c32
                        simp only [Option.some.injEq, Prod.mk.injEq] at H
                        obtain ⟨rfl, rfl⟩ := H
                        go_enter Try.func133, Try.ntmps133
                        go_wp2_with (first | ((with_reducible refine gate_dst (N := 2) rfl ?_); refine box_event ?hg (N := 2) ?hd (cs := #[.string (⟨#[]⟩ : ByteArray), .string (⟨#[]⟩ : ByteArray)]) (t := 186) ?hr ?_; (case hd => rfl); (case hg => rfl); (case hr => first | (go_simp; done) | (go_simp; rfl)); intro gb121 hg w33 hbox hb; have n0_ := Aside0.mk (below_step (by repeat (first | (with_reducible first | exact HB.out | apply below_alloc | apply pw_below_drewN | apply below_drew1) | exact HB.out)) hb); have n1_ := Aside0.mk (hbox); have n2_ := Aside0.mk ((by rw [hg]; exact (below_size (by repeat (first | (with_reducible first | exact HB.out | apply below_alloc | apply pw_below_drewN | apply below_drew1) | exact HB.out))) : w.heap.size ≤ gb121)); have n3_ := Aside0.mk ((by rw [hg]; exact (below_size (by repeat (first | (with_reducible first | exact HB.out | apply below_alloc | apply pw_below_drewN | apply below_drew1) | exact HB.out))) : w.heap.size ≤ gb121)); clear HB; have HB := n0_; have BK121 := n1_; have GW121 := n2_; have GE121 := n3_; clear n0_ n1_ n2_ n3_; clear hb hbox hg; have hcz34_0 : w33.cell? ⟨gb121, 0, none⟩ = some (.string (⟨#[]⟩ : ByteArray)) := (blk_cell BK121.out 0).trans rfl; have hcz34_1 : w33.cell? ⟨gb121, 1, none⟩ = some (.string (⟨#[]⟩ : ByteArray)) := (blk_cell BK121.out 1).trans rfl; have hfz34_0 := blk_frozen BK121.out 0; have hfz34_1 := blk_frozen BK121.out 1))
                        refine bodyPost_ret (results_cell_row rfl _ _ gb121 186 #[.string (⟨#[111, 119, 110, 115, 116, 111, 114, 101]⟩ : ByteArray), .string (⟨#[65, 66, 111, 110]⟩ : ByteArray)] (0, 0) _ rfl (by (with_reducible repeat (first | refine blk_drewN ?_ _ | refine blk_drew ?_ | refine blk_alloc ?_ _)); refine blk_put (cs := #[.string (⟨#[111, 119, 110, 115, 116, 111, 114, 101]⟩ : ByteArray), .string (⟨#[]⟩ : ByteArray)]) ?_ 1 _ rfl; (with_reducible repeat (first | refine blk_drewN ?_ _ | refine blk_drew ?_ | refine blk_alloc ?_ _)); refine blk_put (cs := #[.string (⟨#[]⟩ : ByteArray), .string (⟨#[]⟩ : ByteArray)]) ?_ 0 _ rfl; (with_reducible repeat (first | refine blk_drewN ?_ _ | refine blk_drew ?_ | refine blk_alloc ?_ _)); exact BK121.out) Try.underlying186 rfl (by kernel_rfl)) rfl ?_
                        exact ⟨by first | rfl | (simp [errW_none, errW_some] <;> rfl) | (simp [*, errW_none, errW_some] <;> rfl), by repeat (first | (with_reducible first | exact HB.out | apply below_alloc | apply pw_below_drewN | apply below_drew1 | refine below_set ?_ GE121.out) | exact HB.out)⟩
                      · rw [if_neg c32] at H
                        have c32b0 : (a0 == 11) = false := beq_eq_false_iff_ne.mpr c32
                        have c32b1 : (a0 != 11) = true := bne_iff_ne.mpr c32
                        by_cases c35 : a0 = 12
                        · rw [if_pos c35] at H
                          have c35b0 : (a0 == 12) = true := beq_iff_eq.mpr c35
                          have c35b1 : (a0 != 12) = false := bne_eq_false_iff_eq.mpr c35
                          clear c35
                          simp only [Option.some.injEq, Prod.mk.injEq] at H
                          obtain ⟨rfl, rfl⟩ := H
                          go_enter Try.func133, Try.ntmps133
                          go_wp2_with (first | ((with_reducible refine gate_dst (N := 2) rfl ?_); refine box_event ?hg (N := 2) ?hd (cs := #[.string (⟨#[]⟩ : ByteArray), .string (⟨#[]⟩ : ByteArray)]) (t := 186) ?hr ?_; (case hd => rfl); (case hg => rfl); (case hr => first | (go_simp; done) | (go_simp; rfl)); intro gb121 hg w36 hbox hb; have n0_ := Aside0.mk (below_step (by repeat (first | (with_reducible first | exact HB.out | apply below_alloc | apply pw_below_drewN | apply below_drew1) | exact HB.out)) hb); have n1_ := Aside0.mk (hbox); have n2_ := Aside0.mk ((by rw [hg]; exact (below_size (by repeat (first | (with_reducible first | exact HB.out | apply below_alloc | apply pw_below_drewN | apply below_drew1) | exact HB.out))) : w.heap.size ≤ gb121)); have n3_ := Aside0.mk ((by rw [hg]; exact (below_size (by repeat (first | (with_reducible first | exact HB.out | apply below_alloc | apply pw_below_drewN | apply below_drew1) | exact HB.out))) : w.heap.size ≤ gb121)); clear HB; have HB := n0_; have BK121 := n1_; have GW121 := n2_; have GE121 := n3_; clear n0_ n1_ n2_ n3_; clear hb hbox hg; have hcz37_0 : w36.cell? ⟨gb121, 0, none⟩ = some (.string (⟨#[]⟩ : ByteArray)) := (blk_cell BK121.out 0).trans rfl; have hcz37_1 : w36.cell? ⟨gb121, 1, none⟩ = some (.string (⟨#[]⟩ : ByteArray)) := (blk_cell BK121.out 1).trans rfl; have hfz37_0 := blk_frozen BK121.out 0; have hfz37_1 := blk_frozen BK121.out 1))
                          refine bodyPost_ret (results_cell_row rfl _ _ gb121 186 #[.string (⟨#[112, 114, 105, 110, 116]⟩ : ByteArray), .string (⟨#[66]⟩ : ByteArray)] (0, 0) _ rfl (by (with_reducible repeat (first | refine blk_drewN ?_ _ | refine blk_drew ?_ | refine blk_alloc ?_ _)); refine blk_put (cs := #[.string (⟨#[112, 114, 105, 110, 116]⟩ : ByteArray), .string (⟨#[]⟩ : ByteArray)]) ?_ 1 _ rfl; (with_reducible repeat (first | refine blk_drewN ?_ _ | refine blk_drew ?_ | refine blk_alloc ?_ _)); refine blk_put (cs := #[.string (⟨#[]⟩ : ByteArray), .string (⟨#[]⟩ : ByteArray)]) ?_ 0 _ rfl; (with_reducible repeat (first | refine blk_drewN ?_ _ | refine blk_drew ?_ | refine blk_alloc ?_ _)); exact BK121.out) Try.underlying186 rfl (by kernel_rfl)) rfl ?_
                          exact ⟨by first | rfl | (simp [errW_none, errW_some] <;> rfl) | (simp [*, errW_none, errW_some] <;> rfl), by repeat (first | (with_reducible first | exact HB.out | apply below_alloc | apply pw_below_drewN | apply below_drew1 | refine below_set ?_ GE121.out) | exact HB.out)⟩
                        · rw [if_neg c35] at H
                          have c35b0 : (a0 == 12) = false := beq_eq_false_iff_ne.mpr c35
                          have c35b1 : (a0 != 12) = true := bne_iff_ne.mpr c35
                          by_cases c38 : a0 = 13
                          · rw [if_pos c38] at H
                            have c38b0 : (a0 == 13) = true := beq_iff_eq.mpr c38
                            have c38b1 : (a0 != 13) = false := bne_eq_false_iff_eq.mpr c38
                            clear c38
                            simp only [Option.some.injEq, Prod.mk.injEq] at H
                            obtain ⟨rfl, rfl⟩ := H
                            go_enter Try.func133, Try.ntmps133
                            go_wp2_with (first | ((with_reducible refine gate_dst (N := 2) rfl ?_); refine box_event ?hg (N := 2) ?hd (cs := #[.string (⟨#[]⟩ : ByteArray), .string (⟨#[]⟩ : ByteArray)]) (t := 186) ?hr ?_; (case hd => rfl); (case hg => rfl); (case hr => first | (go_simp; done) | (go_simp; rfl)); intro gb121 hg w39 hbox hb; have n0_ := Aside0.mk (below_step (by repeat (first | (with_reducible first | exact HB.out | apply below_alloc | apply pw_below_drewN | apply below_drew1) | exact HB.out)) hb); have n1_ := Aside0.mk (hbox); have n2_ := Aside0.mk ((by rw [hg]; exact (below_size (by repeat (first | (with_reducible first | exact HB.out | apply below_alloc | apply pw_below_drewN | apply below_drew1) | exact HB.out))) : w.heap.size ≤ gb121)); have n3_ := Aside0.mk ((by rw [hg]; exact (below_size (by repeat (first | (with_reducible first | exact HB.out | apply below_alloc | apply pw_below_drewN | apply below_drew1) | exact HB.out))) : w.heap.size ≤ gb121)); clear HB; have HB := n0_; have BK121 := n1_; have GW121 := n2_; have GE121 := n3_; clear n0_ n1_ n2_ n3_; clear hb hbox hg; have hcz40_0 : w39.cell? ⟨gb121, 0, none⟩ = some (.string (⟨#[]⟩ : ByteArray)) := (blk_cell BK121.out 0).trans rfl; have hcz40_1 : w39.cell? ⟨gb121, 1, none⟩ = some (.string (⟨#[]⟩ : ByteArray)) := (blk_cell BK121.out 1).trans rfl; have hfz40_0 := blk_frozen BK121.out 0; have hfz40_1 := blk_frozen BK121.out 1))
                            refine bodyPost_ret (results_cell_row rfl _ _ gb121 186 #[.string (⟨#[98, 101, 103, 105, 110]⟩ : ByteArray), .string (⟨#[]⟩ : ByteArray)] (0, 0) _ rfl (by (with_reducible repeat (first | refine blk_drewN ?_ _ | refine blk_drew ?_ | refine blk_alloc ?_ _)); refine blk_put (cs := #[.string (⟨#[98, 101, 103, 105, 110]⟩ : ByteArray), .string (⟨#[]⟩ : ByteArray)]) ?_ 1 _ rfl; (with_reducible repeat (first | refine blk_drewN ?_ _ | refine blk_drew ?_ | refine blk_alloc ?_ _)); refine blk_put (cs := #[.string (⟨#[]⟩ : ByteArray), .string (⟨#[]⟩ : ByteArray)]) ?_ 0 _ rfl; (with_reducible repeat (first | refine blk_drewN ?_ _ | refine blk_drew ?_ | refine blk_alloc ?_ _)); exact BK121.out) Try.underlying186 rfl (by kernel_rfl)) rfl ?_
                            exact ⟨by first | rfl | (simp [errW_none, errW_some] <;> rfl) | (simp [*, errW_none, errW_some] <;> rfl), by repeat (first | (with_reducible first | exact HB.out | apply below_alloc | apply pw_below_drewN | apply below_drew1 | refine below_set ?_ GE121.out) | exact HB.out)⟩
                          · rw [if_neg c38] at H
                            have c38b0 : (a0 == 13) = false := beq_eq_false_iff_ne.mpr c38
                            have c38b1 : (a0 != 13) = true := bne_iff_ne.mpr c38
                            by_cases c41 : a0 = 14
                            · rw [if_pos c41] at H
                              have c41b0 : (a0 == 14) = true := beq_iff_eq.mpr c41
                              have c41b1 : (a0 != 14) = false := bne_eq_false_iff_eq.mpr c41
                              clear c41
                              simp only [Option.some.injEq, Prod.mk.injEq] at H
                              obtain ⟨rfl, rfl⟩ := H
                              go_enter Try.func133, Try.ntmps133
                              go_wp2_with (first | ((with_reducible refine gate_dst (N := 2) rfl ?_); refine box_event ?hg (N := 2) ?hd (cs := #[.string (⟨#[]⟩ : ByteArray), .string (⟨#[]⟩ : ByteArray)]) (t := 186) ?hr ?_; (case hd => rfl); (case hg => rfl); (case hr => first | (go_simp; done) | (go_simp; rfl)); intro gb121 hg w42 hbox hb; have n0_ := Aside0.mk (below_step (by repeat (first | (with_reducible first | exact HB.out | apply below_alloc | apply pw_below_drewN | apply below_drew1) | exact HB.out)) hb); have n1_ := Aside0.mk (hbox); have n2_ := Aside0.mk ((by rw [hg]; exact (below_size (by repeat (first | (with_reducible first | exact HB.out | apply below_alloc | apply pw_below_drewN | apply below_drew1) | exact HB.out))) : w.heap.size ≤ gb121)); have n3_ := Aside0.mk ((by rw [hg]; exact (below_size (by repeat (first | (with_reducible first | exact HB.out | apply below_alloc | apply pw_below_drewN | apply below_drew1) | exact HB.out))) : w.heap.size ≤ gb121)); clear HB; have HB := n0_; have BK121 := n1_; have GW121 := n2_; have GE121 := n3_; clear n0_ n1_ n2_ n3_; clear hb hbox hg; have hcz43_0 : w42.cell? ⟨gb121, 0, none⟩ = some (.string (⟨#[]⟩ : ByteArray)) := (blk_cell BK121.out 0).trans rfl; have hcz43_1 : w42.cell? ⟨gb121, 1, none⟩ = some (.string (⟨#[]⟩ : ByteArray)) := (blk_cell BK121.out 1).trans rfl; have hfz43_0 := blk_frozen BK121.out 0; have hfz43_1 := blk_frozen BK121.out 1))
                              refine bodyPost_ret (results_cell_row rfl _ _ gb121 186 #[.string (⟨#[101, 110, 100]⟩ : ByteArray), .string (⟨#[]⟩ : ByteArray)] (0, 0) _ rfl (by (with_reducible repeat (first | refine blk_drewN ?_ _ | refine blk_drew ?_ | refine blk_alloc ?_ _)); refine blk_put (cs := #[.string (⟨#[101, 110, 100]⟩ : ByteArray), .string (⟨#[]⟩ : ByteArray)]) ?_ 1 _ rfl; (with_reducible repeat (first | refine blk_drewN ?_ _ | refine blk_drew ?_ | refine blk_alloc ?_ _)); refine blk_put (cs := #[.string (⟨#[]⟩ : ByteArray), .string (⟨#[]⟩ : ByteArray)]) ?_ 0 _ rfl; (with_reducible repeat (first | refine blk_drewN ?_ _ | refine blk_drew ?_ | refine blk_alloc ?_ _)); exact BK121.out) Try.underlying186 rfl (by kernel_rfl)) rfl ?_
                              exact ⟨by first | rfl | (simp [errW_none, errW_some] <;> rfl) | (simp [*, errW_none, errW_some] <;> rfl), by repeat (first | (with_reducible first | exact HB.out | apply below_alloc | apply pw_below_drewN | apply below_drew1 | refine below_set ?_ GE121.out) | exact HB.out)⟩
                            · rw [if_neg c41] at H
                              have c41b0 : (a0 == 14) = false := beq_eq_false_iff_ne.mpr c41
                              have c41b1 : (a0 != 14) = true := bne_iff_ne.mpr c41
                              simp only [Option.some.injEq, Prod.mk.injEq] at H
                              obtain ⟨rfl, rfl⟩ := H
                              go_enter Try.func133, Try.ntmps133
                              go_wp2_with (first | ((with_reducible refine gate_dst (N := 2) rfl ?_); refine box_event ?hg (N := 2) ?hd (cs := #[.string (⟨#[]⟩ : ByteArray), .string (⟨#[]⟩ : ByteArray)]) (t := 186) ?hr ?_; (case hd => rfl); (case hg => rfl); (case hr => first | (go_simp; done) | (go_simp; rfl)); intro gb121 hg w44 hbox hb; have n0_ := Aside0.mk (below_step (by repeat (first | (with_reducible first | exact HB.out | apply below_alloc | apply pw_below_drewN | apply below_drew1) | exact HB.out)) hb); have n1_ := Aside0.mk (hbox); have n2_ := Aside0.mk ((by rw [hg]; exact (below_size (by repeat (first | (with_reducible first | exact HB.out | apply below_alloc | apply pw_below_drewN | apply below_drew1) | exact HB.out))) : w.heap.size ≤ gb121)); have n3_ := Aside0.mk ((by rw [hg]; exact (below_size (by repeat (first | (with_reducible first | exact HB.out | apply below_alloc | apply pw_below_drewN | apply below_drew1) | exact HB.out))) : w.heap.size ≤ gb121)); clear HB; have HB := n0_; have BK121 := n1_; have GW121 := n2_; have GE121 := n3_; clear n0_ n1_ n2_ n3_; clear hb hbox hg; have hcz45_0 : w44.cell? ⟨gb121, 0, none⟩ = some (.string (⟨#[]⟩ : ByteArray)) := (blk_cell BK121.out 0).trans rfl; have hcz45_1 : w44.cell? ⟨gb121, 1, none⟩ = some (.string (⟨#[]⟩ : ByteArray)) := (blk_cell BK121.out 1).trans rfl; have hfz45_0 := blk_frozen BK121.out 0; have hfz45_1 := blk_frozen BK121.out 1))
                              refine bodyPost_ret (results_cell_row rfl _ _ gb121 186 #[.string (⟨#[]⟩ : ByteArray), .string (⟨#[]⟩ : ByteArray)] (0, 0) _ rfl (by (with_reducible repeat (first | refine blk_drewN ?_ _ | refine blk_drew ?_ | refine blk_alloc ?_ _)); refine blk_put (cs := #[.string (⟨#[]⟩ : ByteArray), .string (⟨#[]⟩ : ByteArray)]) ?_ 1 _ rfl; (with_reducible repeat (first | refine blk_drewN ?_ _ | refine blk_drew ?_ | refine blk_alloc ?_ _)); refine blk_put (cs := #[.string (⟨#[]⟩ : ByteArray), .string (⟨#[]⟩ : ByteArray)]) ?_ 0 _ rfl; (with_reducible repeat (first | refine blk_drewN ?_ _ | refine blk_drew ?_ | refine blk_alloc ?_ _)); exact BK121.out) Try.underlying186 rfl (by kernel_rfl)) rfl ?_
                              exact ⟨by first | rfl | (simp [errW_none, errW_some] <;> rfl) | (simp [*, errW_none, errW_some] <;> rfl), by repeat (first | (with_reducible first | exact HB.out | apply below_alloc | apply pw_below_drewN | apply below_drew1 | refine below_set ?_ GE121.out) | exact HB.out)⟩
end Go.Proofs.Ytjmeignhhheckaa.Q
namespace Go.Proofs.Ytjmeignhhheckaa.H
open Go.RowKit Go.Proofs.YtjmeignhhheckaaW.PrintWords Go.Proofs.YtjmeignhhheckaaW.PrintLast Go.Proofs.Ytjmeignhhheckaa.Q
set_option maxRecDepth 100000
/-- a kind's word and its parts -/
def shp (k : Int) : ByteArray × ByteArray := (ir_shapeOf.f k).getD (⟨#[]⟩, ⟨#[]⟩)
def prt (k : Int) : ByteArray := (shp k).2
def okB (s : ByteArray) : Bool := s.data.toList.all (fun b => decide (b.toNat < 128)) && decide (s.size ≤ 1000)
def OkO (o : Option (ByteArray × ByteArray)) : Prop := ∃ x, o = some x ∧ okB x.2 = true
theorem OkO.ite {c : Prop} [Decidable c] {a b : Option (ByteArray × ByteArray)} (h : OkO a) (k : OkO b) : OkO (if c then a else b) := by split <;> assumption
theorem shp_ok (k : Int) : OkO (ir_shapeOf.f k) := by
  unfold ir_shapeOf.f
  repeat' (refine OkO.ite ?_ ?_)
  all_goals exact ⟨_, rfl, by decide⟩
theorem shp_f (k : Int) : ir_shapeOf.f k = some (shp k) := by
  obtain ⟨x, hx, _⟩ := shp_ok k
  rw [shp, hx]; rfl
theorem ascii_of (s : ByteArray) (h : okB s = true) : Ascii s ∧ s.size ≤ 1000 := by
  unfold okB at h
  rw [Bool.and_eq_true, List.all_eq_true, decide_eq_true_eq] at h
  refine ⟨fun i hi => ?_, h.2⟩
  have := h.1 s[i] (Array.getElem_mem_toList _)
  simpa using this
theorem prt_ok (k : Int) : Ascii (prt k) ∧ (prt k).size ≤ 1000 := by
  obtain ⟨x, hx, h⟩ := shp_ok k
  have : shp k = x := by rw [shp, hx]; rfl
  rw [prt, this]
  exact ascii_of _ h
theorem cells6 {w : World} {g t : Nat} {a b c d e f : Value} (h : w.heap[g]? = some (.cells #[a, b, c, d, e, f] t (0, 0))) :
    w.cell? ⟨g, 0, none⟩ = some a ∧ w.cell? ⟨g, 1, none⟩ = some b ∧ w.cell? ⟨g, 2, none⟩ = some c ∧ w.cell? ⟨g, 3, none⟩ = some d ∧ w.cell? ⟨g, 4, none⟩ = some e ∧ w.cell? ⟨g, 5, none⟩ = some f :=
  ⟨(blk_cell h 0).trans rfl, (blk_cell h 1).trans rfl, (blk_cell h 2).trans rfl, (blk_cell h 3).trans rfl, (blk_cell h 4).trans rfl, (blk_cell h 5).trans rfl⟩
theorem has_calls (p s : ByteArray) (g : Nat) (w : World) (hg : w.cell? ⟨g, 0, none⟩ = some (.string p)) (hp : Ascii p ∧ p.size ≤ 1000) (hs : Ascii s) (hs2 : s.size ≤ 1000) :
    Calls Try.prog 157 #[.string s, .pointer (some ⟨g, 0, none⟩)] w fun e w' => e = .returned (.bool (anyIn p s)) ∧ Below w.heap.size w w' := by
  go_enter Try.func157, Try.ntmps157
  go_wp2_with (go_at_call 158; refine (hasAny_calls _ _ _ hp.1 hs hp.2 hs2).mono ?_; rintro e w' ⟨rfl, hb⟩)
  go_ret
  exact ⟨rfl, hb⟩
def sC : ByteArray := ⟨#[99]⟩
def sA : ByteArray := ⟨#[65]⟩
def sB : ByteArray := ⟨#[66]⟩
def sD : ByteArray := ⟨#[67, 111, 115]⟩
def sN : ByteArray := ⟨#[110]⟩
def zerosB (i : S46) : Bool :=
  (anyIn (prt i.f0) sC || i.f1 == 0) && (anyIn (prt i.f0) sA || i.f2 == 0) && (anyIn (prt i.f0) sB || i.f3 == 0) && (anyIn (prt i.f0) sD || i.f4 == 0) && (anyIn (prt i.f0) sN || i.f5 == 0)
theorem field186_0 (a b : ByteArray) (w : World) : (Instr.field 186 (.agg #[.string a, .string b]) 0).run Try.prog w = .ok (.string a) w := by kernel_rfl
theorem field186_1 (a b : ByteArray) (w : World) : (Instr.field 186 (.agg #[.string a, .string b]) 1).run Try.prog w = .ok (.string b) w := by kernel_rfl
set_option maxHeartbeats 2000000 in
theorem zeros_calls (i : S46) (w : World) :
    Calls Try.prog 134 #[.agg #[.int .u8 i.f0, .int .u8 i.f1, .int .i64 i.f2, .int .i64 i.f3, .int .i64 i.f4, .int .i64 i.f5]] w fun e w' => e = .returned (.bool (zerosB i)) ∧ Below w.heap.size w w' := by
  have hz : zerosB i = zerosB i := rfl
  conv at hz => rhs; unfold zerosB sC sA sB sD sN
  have HZ := Lib.hid hz
  clear hz
  generalize zerosB i = z at HZ ⊢
  obtain ⟨k, c, a, b, d, n⟩ := i
  dsimp only at HZ ⊢
  have hsh := shp_f k
  have hpk : prt k = (shp k).2 := rfl
  have hpo := Lib.hid (prt_ok k)
  rw [hpk] at hpo HZ
  clear hpk
  generalize shp k = wp at hsh hpo HZ
  obtain ⟨wd, p⟩ := wp
  dsimp only at hpo HZ
  have HSH := Lib.hid hsh
  clear hsh
  have HB := Lib.hid (Below.refl w.heap.size w)
  have hf1 := field186_1
  have hu46 := Try.underlying46
  go_enter Try.func134, Try.ntmps134
  go_wp2_with (
    (go_at_call 133; refine (ir_shapeOf.calls _ _ _ _ HSH.out).mono ?_; rintro e w1 ⟨rfl, hb⟩; have HI := Lib.hid (blk_below (blk_new w _) hb); have HB := Lib.hid (below_step (below_alloc HB.out _) hb); clear hb; have hI := HI.out; have hI := cells6 hI; obtain ⟨h0, h1, h2, h3, h4, h5⟩ := hI)
    )
  have HI := Lib.hid (blk_alloc HI.out (.cells #[.string p] 9))
  have HP := Lib.hid (blk_new w1 (.cells #[.string p] 9))
  have HB := Lib.hid (below_alloc HB.out (.cells #[.string p] 9))
  clear h0 h1 h2 h3 h4 h5 hf1
  generalize w1.alloc (.cells #[.string p] 9) = w2 at *
  generalize w1.heap.size = P at *
  iterate 5 (go_wp2_with (go_at_call 157; go_loud ((try clear h0 h1 h2 h3 h4 h5); refine (has_calls p _ _ _ ((blk_cell HP.out 0).trans rfl) hpo.out (ascii_of _ (by decide)).1 (by decide)).mono ?_; rintro e w3 ⟨rfl, hb⟩; have HI' := Lib.hid (blk_below HI.out hb); have HP' := Lib.hid (blk_below HP.out hb); have HB' := Lib.hid (HB.out.trans (hb.mono HB.out.size)); clear hb HI HP HB; have HI := HI'; have HP := HP'; have HB := HB'; clear HI' HP' HB'; obtain ⟨h0, h1, h2, h3, h4, h5⟩ := cells6 HI.out; generalize hq : anyIn p _ = q; cases q)))
  all_goals
    go_ret
    refine ⟨?_, HB.out⟩
    rw [HZ.out]
    simp [*]
end Go.Proofs.Ytjmeignhhheckaa.H
namespace Go.Proofs.Ytjmeignhhheckaa.H
open Go.RowKit Go.Proofs.YtjmeignhhheckaaW.PrintWords Go.Proofs.YtjmeignhhheckaaW.PrintLast Go.Proofs.Ytjmeignhhheckaa.Q
set_option maxRecDepth 100000
def inN (r : Int) (n : Nat) : Bool := decide (0 ≤ r) && decide (r < n)
def isNum (xs : List Bool) (r : Int) : Bool := inN r xs.length && !(rdOf false xs r)
def isRef (xs : List Bool) (r : Int) : Bool := inN r xs.length && (rdOf false xs r)
theorem reg_calls (K n c : Nat) (A : Option Addr) (r : Int) (w : World) (hK : w.cell? ⟨K, 0, none⟩ = some (.slice A n c)) :
    Calls Try.prog 137 #[.pointer (some ⟨K, 0, none⟩), .int .i64 r] w fun e w' => e = .returned (.bool (inN r n)) ∧ w = w' := by
  unfold inN
  by_cases h0 : 0 ≤ r
  · go_enter Try.func137, Try.ntmps137
    go_wp2
    go_ret
    exact ⟨by simp [h0], rfl⟩
  · go_enter Try.func137, Try.ntmps137
    go_wp2
    go_ret
    exact ⟨by simp [h0]; omega, rfl⟩
theorem num_calls (K c : Nat) (A : Option Addr) (xs : List Bool) (r : Int) (w : World) (hK : w.cell? ⟨K, 0, none⟩ = some (.slice A xs.length c)) (hA : Kd.C Kd.bool w A xs.length xs) :
    Calls Try.prog 135 #[.pointer (some ⟨K, 0, none⟩), .int .i64 r] w fun e w' => e = .returned (.bool (isNum xs r)) ∧ w = w' := by
  cases hq : inN r xs.length
  · go_enter Try.func135, Try.ntmps135
    go_wp2_with (go_at_call 137; refine (reg_calls _ _ _ _ _ _ hK).mono ?_; rw [hq]; rintro e w' ⟨rfl, rfl⟩)
    go_ret
    exact ⟨by simp [isNum, hq], rfl⟩
  · have h0 : 0 ≤ r := by simp [inN] at hq; exact hq.1
    have h1 : r < xs.length := by simp [inN] at hq; exact hq.2
    obtain ⟨a, rfl, ha⟩ := Kd.at_bool hA r h0 h1
    go_enter Try.func135, Try.ntmps135
    go_wp2_with (go_at_call 137; refine (reg_calls _ _ _ _ _ _ hK).mono ?_; rw [hq]; rintro e w' ⟨rfl, rfl⟩)
    go_ret
    exact ⟨by simp [isNum, hq], rfl⟩
theorem ref_calls (K c : Nat) (A : Option Addr) (xs : List Bool) (r : Int) (w : World) (hK : w.cell? ⟨K, 0, none⟩ = some (.slice A xs.length c)) (hA : Kd.C Kd.bool w A xs.length xs) :
    Calls Try.prog 136 #[.pointer (some ⟨K, 0, none⟩), .int .i64 r] w fun e w' => e = .returned (.bool (isRef xs r)) ∧ w = w' := by
  cases hq : inN r xs.length
  · go_enter Try.func136, Try.ntmps136
    go_wp2_with (go_at_call 137; refine (reg_calls _ _ _ _ _ _ hK).mono ?_; rw [hq]; rintro e w' ⟨rfl, rfl⟩)
    go_ret
    exact ⟨by simp [isRef, hq], rfl⟩
  · have h0 : 0 ≤ r := by simp [inN] at hq; exact hq.1
    have h1 : r < xs.length := by simp [inN] at hq; exact hq.2
    obtain ⟨a, rfl, ha⟩ := Kd.at_bool hA r h0 h1
    go_enter Try.func136, Try.ntmps136
    go_wp2_with (go_at_call 137; refine (reg_calls _ _ _ _ _ _ hK).mono ?_; rw [hq]; rintro e w' ⟨rfl, rfl⟩)
    go_ret
    exact ⟨by simp [isRef, hq], rfl⟩
def emptyB (s : ByteArray) : Bool := s.data.toList.isEmpty
/-- may an instruction be, by itself; sites: those met before -/
def insB (xs : List Bool) (sites words : Int) (met : List Int) (i : S46) : Bool :=
  if emptyB (shp i.f0).1 || !zerosB i then false
  else if i.f0 = 1 then isNum xs i.f2 || isRef xs i.f2 && i.f5 == 0
  else if i.f0 = 2 then isNum xs i.f2 && isNum xs i.f3 || isRef xs i.f2 && isRef xs i.f3
  else if i.f0 = 3 then decide (1 ≤ i.f1) && decide (i.f1 ≤ 14) && isNum xs i.f2 && ((i.f1 == 11 || i.f1 == 12) && isRef xs i.f3 && isRef xs i.f4 || isNum xs i.f3 && isNum xs i.f4)
  else if i.f0 = 4 then isRef xs i.f3
  else if i.f0 = 5 then isNum xs i.f3 && decide (1 ≤ i.f5) && decide (i.f5 ≤ 64)
  else if i.f0 = 6 then isRef xs i.f2 && decide (1 ≤ i.f5) && decide (i.f5 ≤ words)
  else if i.f0 = 7 then isRef xs i.f2 && decide (1 ≤ i.f5) && decide (i.f5 ≤ 64) && decide (0 ≤ i.f4) && decide (i.f4 < sites) && !(met.contains i.f4)
  else if i.f0 = 12 then isNum xs i.f3
  else if i.f0 = 13 then true
  else if i.f0 = 14 then true
  else inN i.f2 xs.length && isRef xs i.f3 && (i.f4 == -1 || isNum xs i.f4) && decide (0 ≤ i.f5) && decide (i.f5 ≤ 64)
set_option maxHeartbeats 1000000 in
theorem ins_k1 (K b nc bc : Nat) (A B : Option Addr) (xs : List Bool) (nb : Nat) (sites words : Int) (met : List Int) (c a bb d n : Int) (w : World)
    (hK : w.heap[K]? = some (.cells #[.slice A xs.length nc, .int .i64 sites, .slice B nb bc, .int .i64 words, .map (some b)] 148 (0, 0)))
    (hA : Kd.C Kd.bool w A xs.length xs) :
    Calls Try.prog 112 #[.pointer (some ⟨K, 0, none⟩), .agg #[.int .u8 1, .int .u8 c, .int .i64 a, .int .i64 bb, .int .i64 d, .int .i64 n]] w fun e w' => e = .returned (.bool (insB xs sites words met ⟨1, c, a, bb, d, n⟩)) ∧ Below w.heap.size w w' := by
  have hz : insB xs sites words met ⟨1, c, a, bb, d, n⟩ = (zerosB ⟨1, c, a, bb, d, n⟩ && (isNum xs a || isRef xs a && n == 0)) := by
    simp [insB, show emptyB (shp 1).1 = false from by decide]
  have HZ := Lib.hid hz
  clear hz
  generalize insB xs sites words met ⟨1, c, a, bb, d, n⟩ = z at HZ ⊢
  obtain ⟨zq, hzq⟩ : ∃ q, zerosB ⟨1, c, a, bb, d, n⟩ = q := ⟨_, rfl⟩
  rw [hzq] at HZ
  have HZQ := Lib.hid hzq
  clear hzq
  have hf0 := field186_0
  have HB := Lib.hid (Below.refl w.heap.size w)
  have HK := Lib.hid hK
  have HA := Lib.hid hA
  clear hK hA
  have HSH := Lib.hid (show ir_shapeOf.f 1 = some (⟨#[99, 111, 110, 115, 116]⟩, ⟨#[65, 110]⟩) from rfl)
  have hu46 := Try.underlying46
  go_enter Try.func112, Try.ntmps112
  go_wp2_with (first
    | (go_at_call 133; refine (ir_shapeOf.calls _ _ _ _ HSH.out).mono ?_; rintro e w1 ⟨rfl, hb⟩; have HI := Lib.hid (blk_below (blk_new w _) hb); have HK := Lib.hid (blk_below (blk_alloc HK.out _) hb); have HA := Lib.hid (Kd.C_below (Kd.C_alloc HA.out _) hb); have HB := Lib.hid (below_step (below_alloc HB.out _) hb); clear hb; obtain ⟨h0, h1, h2, h3, h4, h5⟩ := cells6 HI.out)
    | (go_at_call 134; clear h0 h1 h2 h3 h4 h5; refine (zeros_calls ⟨1, c, a, bb, d, n⟩ _).mono ?_; rw [HZQ.out]; clear HZQ; rintro e w2 ⟨rfl, hb⟩; have HI := Lib.hid (blk_below HI.out hb); have HK := Lib.hid (blk_below HK.out hb); have HA := Lib.hid (Kd.C_below HA.out hb); have HB := Lib.hid (below_step HB.out hb); clear hb; obtain ⟨h0, h1, h2, h3, h4, h5⟩ := cells6 HI.out; cases zq)
    | (go_at_call 135; refine (num_calls _ _ _ _ _ _ ((blk_cell HK.out 0).trans rfl) HA.out).mono ?_; rintro e w' ⟨rfl, rfl⟩; generalize hq : isNum xs _ = q; cases q)
    | (go_at_call 136; refine (ref_calls _ _ _ _ _ _ ((blk_cell HK.out 0).trans rfl) HA.out).mono ?_; rintro e w' ⟨rfl, rfl⟩; generalize hq : isRef xs _ = q; cases q)
    | (go_at_call 137; refine (reg_calls _ _ _ _ _ _ ((blk_cell HK.out 0).trans rfl)).mono ?_; rintro e w' ⟨rfl, rfl⟩; generalize hq : inN _ xs.length = q; cases q)
    )
  all_goals
    go_ret
    refine ⟨?_, HB.out⟩
    rw [HZ.out]
    simp [*] <;> omega
set_option maxHeartbeats 1000000 in
theorem ins_k2 (K b nc bc : Nat) (A B : Option Addr) (xs : List Bool) (nb : Nat) (sites words : Int) (met : List Int) (c a bb d n : Int) (w : World)
    (hK : w.heap[K]? = some (.cells #[.slice A xs.length nc, .int .i64 sites, .slice B nb bc, .int .i64 words, .map (some b)] 148 (0, 0)))
    (hA : Kd.C Kd.bool w A xs.length xs) :
    Calls Try.prog 112 #[.pointer (some ⟨K, 0, none⟩), .agg #[.int .u8 2, .int .u8 c, .int .i64 a, .int .i64 bb, .int .i64 d, .int .i64 n]] w fun e w' => e = .returned (.bool (insB xs sites words met ⟨2, c, a, bb, d, n⟩)) ∧ Below w.heap.size w w' := by
  have hz : insB xs sites words met ⟨2, c, a, bb, d, n⟩ = (zerosB ⟨2, c, a, bb, d, n⟩ && (isNum xs a && isNum xs bb || isRef xs a && isRef xs bb)) := by
    simp [insB, show emptyB (shp 2).1 = false from by decide]
  have HZ := Lib.hid hz
  clear hz
  generalize insB xs sites words met ⟨2, c, a, bb, d, n⟩ = z at HZ ⊢
  obtain ⟨zq, hzq⟩ : ∃ q, zerosB ⟨2, c, a, bb, d, n⟩ = q := ⟨_, rfl⟩
  rw [hzq] at HZ
  have HZQ := Lib.hid hzq
  clear hzq
  have hf0 := field186_0
  have HB := Lib.hid (Below.refl w.heap.size w)
  have HK := Lib.hid hK
  have HA := Lib.hid hA
  clear hK hA
  have HSH := Lib.hid (show ir_shapeOf.f 2 = some (⟨#[109, 111, 118, 101]⟩, ⟨#[65, 66]⟩) from rfl)
  have hu46 := Try.underlying46
  go_enter Try.func112, Try.ntmps112
  go_wp2_with (first
    | (go_at_call 133; refine (ir_shapeOf.calls _ _ _ _ HSH.out).mono ?_; rintro e w1 ⟨rfl, hb⟩; have HI := Lib.hid (blk_below (blk_new w _) hb); have HK := Lib.hid (blk_below (blk_alloc HK.out _) hb); have HA := Lib.hid (Kd.C_below (Kd.C_alloc HA.out _) hb); have HB := Lib.hid (below_step (below_alloc HB.out _) hb); clear hb; obtain ⟨h0, h1, h2, h3, h4, h5⟩ := cells6 HI.out)
    | (go_at_call 134; clear h0 h1 h2 h3 h4 h5; refine (zeros_calls ⟨2, c, a, bb, d, n⟩ _).mono ?_; rw [HZQ.out]; clear HZQ; rintro e w2 ⟨rfl, hb⟩; have HI := Lib.hid (blk_below HI.out hb); have HK := Lib.hid (blk_below HK.out hb); have HA := Lib.hid (Kd.C_below HA.out hb); have HB := Lib.hid (below_step HB.out hb); clear hb; obtain ⟨h0, h1, h2, h3, h4, h5⟩ := cells6 HI.out; cases zq)
    | (go_at_call 135; refine (num_calls _ _ _ _ _ _ ((blk_cell HK.out 0).trans rfl) HA.out).mono ?_; rintro e w' ⟨rfl, rfl⟩; generalize hq : isNum xs _ = q; cases q)
    | (go_at_call 136; refine (ref_calls _ _ _ _ _ _ ((blk_cell HK.out 0).trans rfl) HA.out).mono ?_; rintro e w' ⟨rfl, rfl⟩; generalize hq : isRef xs _ = q; cases q)
    | (go_at_call 137; refine (reg_calls _ _ _ _ _ _ ((blk_cell HK.out 0).trans rfl)).mono ?_; rintro e w' ⟨rfl, rfl⟩; generalize hq : inN _ xs.length = q; cases q)
    )
  all_goals
    go_ret
    refine ⟨?_, HB.out⟩
    rw [HZ.out]
    simp [*] <;> omega
set_option maxHeartbeats 1000000 in
theorem ins_k3 (K b nc bc : Nat) (A B : Option Addr) (xs : List Bool) (nb : Nat) (sites words : Int) (met : List Int) (c a bb d n : Int) (w : World)
    (hK : w.heap[K]? = some (.cells #[.slice A xs.length nc, .int .i64 sites, .slice B nb bc, .int .i64 words, .map (some b)] 148 (0, 0)))
    (hA : Kd.C Kd.bool w A xs.length xs) :
    Calls Try.prog 112 #[.pointer (some ⟨K, 0, none⟩), .agg #[.int .u8 3, .int .u8 c, .int .i64 a, .int .i64 bb, .int .i64 d, .int .i64 n]] w fun e w' => e = .returned (.bool (insB xs sites words met ⟨3, c, a, bb, d, n⟩)) ∧ Below w.heap.size w w' := by
  have hz : insB xs sites words met ⟨3, c, a, bb, d, n⟩ = (zerosB ⟨3, c, a, bb, d, n⟩ && (decide (1 ≤ c) && decide (c ≤ 14) && isNum xs a && ((c == 11 || c == 12) && isRef xs bb && isRef xs d || isNum xs bb && isNum xs d))) := by
    simp [insB, show emptyB (shp 3).1 = false from by decide]
  have HZ := Lib.hid hz
  clear hz
  generalize insB xs sites words met ⟨3, c, a, bb, d, n⟩ = z at HZ ⊢
  obtain ⟨zq, hzq⟩ : ∃ q, zerosB ⟨3, c, a, bb, d, n⟩ = q := ⟨_, rfl⟩
  rw [hzq] at HZ
  have HZQ := Lib.hid hzq
  clear hzq
  have hf0 := field186_0
  have HB := Lib.hid (Below.refl w.heap.size w)
  have HK := Lib.hid hK
  have HA := Lib.hid hA
  clear hK hA
  have HSH := Lib.hid (show ir_shapeOf.f 3 = some (⟨#[99, 97, 108, 99]⟩, ⟨#[99, 65, 66, 67]⟩) from rfl)
  have hu46 := Try.underlying46
  go_enter Try.func112, Try.ntmps112
  go_wp2_with (first
    | (go_at_call 133; refine (ir_shapeOf.calls _ _ _ _ HSH.out).mono ?_; rintro e w1 ⟨rfl, hb⟩; have HI := Lib.hid (blk_below (blk_new w _) hb); have HK := Lib.hid (blk_below (blk_alloc HK.out _) hb); have HA := Lib.hid (Kd.C_below (Kd.C_alloc HA.out _) hb); have HB := Lib.hid (below_step (below_alloc HB.out _) hb); clear hb; obtain ⟨h0, h1, h2, h3, h4, h5⟩ := cells6 HI.out)
    | (go_at_call 134; clear h0 h1 h2 h3 h4 h5; refine (zeros_calls ⟨3, c, a, bb, d, n⟩ _).mono ?_; rw [HZQ.out]; clear HZQ; rintro e w2 ⟨rfl, hb⟩; have HI := Lib.hid (blk_below HI.out hb); have HK := Lib.hid (blk_below HK.out hb); have HA := Lib.hid (Kd.C_below HA.out hb); have HB := Lib.hid (below_step HB.out hb); clear hb; obtain ⟨h0, h1, h2, h3, h4, h5⟩ := cells6 HI.out; cases zq)
    | (go_at_call 135; refine (num_calls _ _ _ _ _ _ ((blk_cell HK.out 0).trans rfl) HA.out).mono ?_; rintro e w' ⟨rfl, rfl⟩; generalize hq : isNum xs _ = q; cases q)
    | (go_at_call 136; refine (ref_calls _ _ _ _ _ _ ((blk_cell HK.out 0).trans rfl) HA.out).mono ?_; rintro e w' ⟨rfl, rfl⟩; generalize hq : isRef xs _ = q; cases q)
    | (go_at_call 137; refine (reg_calls _ _ _ _ _ _ ((blk_cell HK.out 0).trans rfl)).mono ?_; rintro e w' ⟨rfl, rfl⟩; generalize hq : inN _ xs.length = q; cases q)
    )
  all_goals
    go_ret
    refine ⟨?_, HB.out⟩
    rw [HZ.out]
    simp [*] <;> omega
set_option maxHeartbeats 1000000 in
theorem ins_k4 (K b nc bc : Nat) (A B : Option Addr) (xs : List Bool) (nb : Nat) (sites words : Int) (met : List Int) (c a bb d n : Int) (w : World)
    (hK : w.heap[K]? = some (.cells #[.slice A xs.length nc, .int .i64 sites, .slice B nb bc, .int .i64 words, .map (some b)] 148 (0, 0)))
    (hA : Kd.C Kd.bool w A xs.length xs) :
    Calls Try.prog 112 #[.pointer (some ⟨K, 0, none⟩), .agg #[.int .u8 4, .int .u8 c, .int .i64 a, .int .i64 bb, .int .i64 d, .int .i64 n]] w fun e w' => e = .returned (.bool (insB xs sites words met ⟨4, c, a, bb, d, n⟩)) ∧ Below w.heap.size w w' := by
  have hz : insB xs sites words met ⟨4, c, a, bb, d, n⟩ = (zerosB ⟨4, c, a, bb, d, n⟩ && (isRef xs bb)) := by
    simp [insB, show emptyB (shp 4).1 = false from by decide]
  have HZ := Lib.hid hz
  clear hz
  generalize insB xs sites words met ⟨4, c, a, bb, d, n⟩ = z at HZ ⊢
  obtain ⟨zq, hzq⟩ : ∃ q, zerosB ⟨4, c, a, bb, d, n⟩ = q := ⟨_, rfl⟩
  rw [hzq] at HZ
  have HZQ := Lib.hid hzq
  clear hzq
  have hf0 := field186_0
  have HB := Lib.hid (Below.refl w.heap.size w)
  have HK := Lib.hid hK
  have HA := Lib.hid hA
  clear hK hA
  have HSH := Lib.hid (show ir_shapeOf.f 4 = some (⟨#[110, 105, 108]⟩, ⟨#[66]⟩) from rfl)
  have hu46 := Try.underlying46
  go_enter Try.func112, Try.ntmps112
  go_wp2_with (first
    | (go_at_call 133; refine (ir_shapeOf.calls _ _ _ _ HSH.out).mono ?_; rintro e w1 ⟨rfl, hb⟩; have HI := Lib.hid (blk_below (blk_new w _) hb); have HK := Lib.hid (blk_below (blk_alloc HK.out _) hb); have HA := Lib.hid (Kd.C_below (Kd.C_alloc HA.out _) hb); have HB := Lib.hid (below_step (below_alloc HB.out _) hb); clear hb; obtain ⟨h0, h1, h2, h3, h4, h5⟩ := cells6 HI.out)
    | (go_at_call 134; clear h0 h1 h2 h3 h4 h5; refine (zeros_calls ⟨4, c, a, bb, d, n⟩ _).mono ?_; rw [HZQ.out]; clear HZQ; rintro e w2 ⟨rfl, hb⟩; have HI := Lib.hid (blk_below HI.out hb); have HK := Lib.hid (blk_below HK.out hb); have HA := Lib.hid (Kd.C_below HA.out hb); have HB := Lib.hid (below_step HB.out hb); clear hb; obtain ⟨h0, h1, h2, h3, h4, h5⟩ := cells6 HI.out; cases zq)
    | (go_at_call 135; refine (num_calls _ _ _ _ _ _ ((blk_cell HK.out 0).trans rfl) HA.out).mono ?_; rintro e w' ⟨rfl, rfl⟩; generalize hq : isNum xs _ = q; cases q)
    | (go_at_call 136; refine (ref_calls _ _ _ _ _ _ ((blk_cell HK.out 0).trans rfl) HA.out).mono ?_; rintro e w' ⟨rfl, rfl⟩; generalize hq : isRef xs _ = q; cases q)
    | (go_at_call 137; refine (reg_calls _ _ _ _ _ _ ((blk_cell HK.out 0).trans rfl)).mono ?_; rintro e w' ⟨rfl, rfl⟩; generalize hq : inN _ xs.length = q; cases q)
    )
  all_goals
    go_ret
    refine ⟨?_, HB.out⟩
    rw [HZ.out]
    simp [*] <;> omega
set_option maxHeartbeats 1000000 in
theorem ins_k5 (K b nc bc : Nat) (A B : Option Addr) (xs : List Bool) (nb : Nat) (sites words : Int) (met : List Int) (c a bb d n : Int) (w : World)
    (hK : w.heap[K]? = some (.cells #[.slice A xs.length nc, .int .i64 sites, .slice B nb bc, .int .i64 words, .map (some b)] 148 (0, 0)))
    (hA : Kd.C Kd.bool w A xs.length xs) :
    Calls Try.prog 112 #[.pointer (some ⟨K, 0, none⟩), .agg #[.int .u8 5, .int .u8 c, .int .i64 a, .int .i64 bb, .int .i64 d, .int .i64 n]] w fun e w' => e = .returned (.bool (insB xs sites words met ⟨5, c, a, bb, d, n⟩)) ∧ Below w.heap.size w w' := by
  have hz : insB xs sites words met ⟨5, c, a, bb, d, n⟩ = (zerosB ⟨5, c, a, bb, d, n⟩ && (isNum xs bb && decide (1 ≤ n) && decide (n ≤ 64))) := by
    simp [insB, show emptyB (shp 5).1 = false from by decide]
  have HZ := Lib.hid hz
  clear hz
  generalize insB xs sites words met ⟨5, c, a, bb, d, n⟩ = z at HZ ⊢
  obtain ⟨zq, hzq⟩ : ∃ q, zerosB ⟨5, c, a, bb, d, n⟩ = q := ⟨_, rfl⟩
  rw [hzq] at HZ
  have HZQ := Lib.hid hzq
  clear hzq
  have hf0 := field186_0
  have HB := Lib.hid (Below.refl w.heap.size w)
  have HK := Lib.hid hK
  have HA := Lib.hid hA
  clear hK hA
  have HSH := Lib.hid (show ir_shapeOf.f 5 = some (⟨#[105, 110, 100, 101, 120]⟩, ⟨#[66, 110]⟩) from rfl)
  have hu46 := Try.underlying46
  go_enter Try.func112, Try.ntmps112
  go_wp2_with (first
    | (go_at_call 133; refine (ir_shapeOf.calls _ _ _ _ HSH.out).mono ?_; rintro e w1 ⟨rfl, hb⟩; have HI := Lib.hid (blk_below (blk_new w _) hb); have HK := Lib.hid (blk_below (blk_alloc HK.out _) hb); have HA := Lib.hid (Kd.C_below (Kd.C_alloc HA.out _) hb); have HB := Lib.hid (below_step (below_alloc HB.out _) hb); clear hb; obtain ⟨h0, h1, h2, h3, h4, h5⟩ := cells6 HI.out)
    | (go_at_call 134; clear h0 h1 h2 h3 h4 h5; refine (zeros_calls ⟨5, c, a, bb, d, n⟩ _).mono ?_; rw [HZQ.out]; clear HZQ; rintro e w2 ⟨rfl, hb⟩; have HI := Lib.hid (blk_below HI.out hb); have HK := Lib.hid (blk_below HK.out hb); have HA := Lib.hid (Kd.C_below HA.out hb); have HB := Lib.hid (below_step HB.out hb); clear hb; obtain ⟨h0, h1, h2, h3, h4, h5⟩ := cells6 HI.out; cases zq)
    | (go_at_call 135; refine (num_calls _ _ _ _ _ _ ((blk_cell HK.out 0).trans rfl) HA.out).mono ?_; rintro e w' ⟨rfl, rfl⟩; generalize hq : isNum xs _ = q; cases q)
    | (go_at_call 136; refine (ref_calls _ _ _ _ _ _ ((blk_cell HK.out 0).trans rfl) HA.out).mono ?_; rintro e w' ⟨rfl, rfl⟩; generalize hq : isRef xs _ = q; cases q)
    | (go_at_call 137; refine (reg_calls _ _ _ _ _ _ ((blk_cell HK.out 0).trans rfl)).mono ?_; rintro e w' ⟨rfl, rfl⟩; generalize hq : inN _ xs.length = q; cases q)
    )
  all_goals
    go_ret
    refine ⟨?_, HB.out⟩
    rw [HZ.out]
    simp [*] <;> omega
set_option maxHeartbeats 1000000 in
theorem ins_k8 (K b nc bc : Nat) (A B : Option Addr) (xs : List Bool) (nb : Nat) (sites words : Int) (met : List Int) (c a bb d n : Int) (w : World)
    (hK : w.heap[K]? = some (.cells #[.slice A xs.length nc, .int .i64 sites, .slice B nb bc, .int .i64 words, .map (some b)] 148 (0, 0)))
    (hA : Kd.C Kd.bool w A xs.length xs) :
    Calls Try.prog 112 #[.pointer (some ⟨K, 0, none⟩), .agg #[.int .u8 8, .int .u8 c, .int .i64 a, .int .i64 bb, .int .i64 d, .int .i64 n]] w fun e w' => e = .returned (.bool (insB xs sites words met ⟨8, c, a, bb, d, n⟩)) ∧ Below w.heap.size w w' := by
  have hz : insB xs sites words met ⟨8, c, a, bb, d, n⟩ = (zerosB ⟨8, c, a, bb, d, n⟩ && (inN a xs.length && isRef xs bb && (d == -1 || isNum xs d) && decide (0 ≤ n) && decide (n ≤ 64))) := by
    simp [insB, show emptyB (shp 8).1 = false from by decide]
  have HZ := Lib.hid hz
  clear hz
  generalize insB xs sites words met ⟨8, c, a, bb, d, n⟩ = z at HZ ⊢
  obtain ⟨zq, hzq⟩ : ∃ q, zerosB ⟨8, c, a, bb, d, n⟩ = q := ⟨_, rfl⟩
  rw [hzq] at HZ
  have HZQ := Lib.hid hzq
  clear hzq
  have hf0 := field186_0
  have HB := Lib.hid (Below.refl w.heap.size w)
  have HK := Lib.hid hK
  have HA := Lib.hid hA
  clear hK hA
  have HSH := Lib.hid (show ir_shapeOf.f 8 = some (⟨#[108, 111, 97, 100]⟩, ⟨#[65, 66, 111, 110]⟩) from rfl)
  have hu46 := Try.underlying46
  go_enter Try.func112, Try.ntmps112
  go_wp2_with (first
    | (go_at_call 133; refine (ir_shapeOf.calls _ _ _ _ HSH.out).mono ?_; rintro e w1 ⟨rfl, hb⟩; have HI := Lib.hid (blk_below (blk_new w _) hb); have HK := Lib.hid (blk_below (blk_alloc HK.out _) hb); have HA := Lib.hid (Kd.C_below (Kd.C_alloc HA.out _) hb); have HB := Lib.hid (below_step (below_alloc HB.out _) hb); clear hb; obtain ⟨h0, h1, h2, h3, h4, h5⟩ := cells6 HI.out)
    | (go_at_call 134; clear h0 h1 h2 h3 h4 h5; refine (zeros_calls ⟨8, c, a, bb, d, n⟩ _).mono ?_; rw [HZQ.out]; clear HZQ; rintro e w2 ⟨rfl, hb⟩; have HI := Lib.hid (blk_below HI.out hb); have HK := Lib.hid (blk_below HK.out hb); have HA := Lib.hid (Kd.C_below HA.out hb); have HB := Lib.hid (below_step HB.out hb); clear hb; obtain ⟨h0, h1, h2, h3, h4, h5⟩ := cells6 HI.out; cases zq)
    | (go_at_call 135; refine (num_calls _ _ _ _ _ _ ((blk_cell HK.out 0).trans rfl) HA.out).mono ?_; rintro e w' ⟨rfl, rfl⟩; generalize hq : isNum xs _ = q; cases q)
    | (go_at_call 136; refine (ref_calls _ _ _ _ _ _ ((blk_cell HK.out 0).trans rfl) HA.out).mono ?_; rintro e w' ⟨rfl, rfl⟩; generalize hq : isRef xs _ = q; cases q)
    | (go_at_call 137; refine (reg_calls _ _ _ _ _ _ ((blk_cell HK.out 0).trans rfl)).mono ?_; rintro e w' ⟨rfl, rfl⟩; generalize hq : inN _ xs.length = q; cases q)
    )
  all_goals
    go_ret
    refine ⟨?_, HB.out⟩
    rw [HZ.out]
    simp [*] <;> omega
set_option maxHeartbeats 1000000 in
theorem ins_k9 (K b nc bc : Nat) (A B : Option Addr) (xs : List Bool) (nb : Nat) (sites words : Int) (met : List Int) (c a bb d n : Int) (w : World)
    (hK : w.heap[K]? = some (.cells #[.slice A xs.length nc, .int .i64 sites, .slice B nb bc, .int .i64 words, .map (some b)] 148 (0, 0)))
    (hA : Kd.C Kd.bool w A xs.length xs) :
    Calls Try.prog 112 #[.pointer (some ⟨K, 0, none⟩), .agg #[.int .u8 9, .int .u8 c, .int .i64 a, .int .i64 bb, .int .i64 d, .int .i64 n]] w fun e w' => e = .returned (.bool (insB xs sites words met ⟨9, c, a, bb, d, n⟩)) ∧ Below w.heap.size w w' := by
  have hz : insB xs sites words met ⟨9, c, a, bb, d, n⟩ = (zerosB ⟨9, c, a, bb, d, n⟩ && (inN a xs.length && isRef xs bb && (d == -1 || isNum xs d) && decide (0 ≤ n) && decide (n ≤ 64))) := by
    simp [insB, show emptyB (shp 9).1 = false from by decide]
  have HZ := Lib.hid hz
  clear hz
  generalize insB xs sites words met ⟨9, c, a, bb, d, n⟩ = z at HZ ⊢
  obtain ⟨zq, hzq⟩ : ∃ q, zerosB ⟨9, c, a, bb, d, n⟩ = q := ⟨_, rfl⟩
  rw [hzq] at HZ
  have HZQ := Lib.hid hzq
  clear hzq
  have hf0 := field186_0
  have HB := Lib.hid (Below.refl w.heap.size w)
  have HK := Lib.hid hK
  have HA := Lib.hid hA
  clear hK hA
  have HSH := Lib.hid (show ir_shapeOf.f 9 = some (⟨#[115, 116, 111, 114, 101]⟩, ⟨#[65, 66, 111, 110]⟩) from rfl)
  have hu46 := Try.underlying46
  go_enter Try.func112, Try.ntmps112
  go_wp2_with (first
    | (go_at_call 133; refine (ir_shapeOf.calls _ _ _ _ HSH.out).mono ?_; rintro e w1 ⟨rfl, hb⟩; have HI := Lib.hid (blk_below (blk_new w _) hb); have HK := Lib.hid (blk_below (blk_alloc HK.out _) hb); have HA := Lib.hid (Kd.C_below (Kd.C_alloc HA.out _) hb); have HB := Lib.hid (below_step (below_alloc HB.out _) hb); clear hb; obtain ⟨h0, h1, h2, h3, h4, h5⟩ := cells6 HI.out)
    | (go_at_call 134; clear h0 h1 h2 h3 h4 h5; refine (zeros_calls ⟨9, c, a, bb, d, n⟩ _).mono ?_; rw [HZQ.out]; clear HZQ; rintro e w2 ⟨rfl, hb⟩; have HI := Lib.hid (blk_below HI.out hb); have HK := Lib.hid (blk_below HK.out hb); have HA := Lib.hid (Kd.C_below HA.out hb); have HB := Lib.hid (below_step HB.out hb); clear hb; obtain ⟨h0, h1, h2, h3, h4, h5⟩ := cells6 HI.out; cases zq)
    | (go_at_call 135; refine (num_calls _ _ _ _ _ _ ((blk_cell HK.out 0).trans rfl) HA.out).mono ?_; rintro e w' ⟨rfl, rfl⟩; generalize hq : isNum xs _ = q; cases q)
    | (go_at_call 136; refine (ref_calls _ _ _ _ _ _ ((blk_cell HK.out 0).trans rfl) HA.out).mono ?_; rintro e w' ⟨rfl, rfl⟩; generalize hq : isRef xs _ = q; cases q)
    | (go_at_call 137; refine (reg_calls _ _ _ _ _ _ ((blk_cell HK.out 0).trans rfl)).mono ?_; rintro e w' ⟨rfl, rfl⟩; generalize hq : inN _ xs.length = q; cases q)
    )
  all_goals
    go_ret
    refine ⟨?_, HB.out⟩
    rw [HZ.out]
    simp [*] <;> omega
set_option maxHeartbeats 1000000 in
theorem ins_k10 (K b nc bc : Nat) (A B : Option Addr) (xs : List Bool) (nb : Nat) (sites words : Int) (met : List Int) (c a bb d n : Int) (w : World)
    (hK : w.heap[K]? = some (.cells #[.slice A xs.length nc, .int .i64 sites, .slice B nb bc, .int .i64 words, .map (some b)] 148 (0, 0)))
    (hA : Kd.C Kd.bool w A xs.length xs) :
    Calls Try.prog 112 #[.pointer (some ⟨K, 0, none⟩), .agg #[.int .u8 10, .int .u8 c, .int .i64 a, .int .i64 bb, .int .i64 d, .int .i64 n]] w fun e w' => e = .returned (.bool (insB xs sites words met ⟨10, c, a, bb, d, n⟩)) ∧ Below w.heap.size w w' := by
  have hz : insB xs sites words met ⟨10, c, a, bb, d, n⟩ = (zerosB ⟨10, c, a, bb, d, n⟩ && (inN a xs.length && isRef xs bb && (d == -1 || isNum xs d) && decide (0 ≤ n) && decide (n ≤ 64))) := by
    simp [insB, show emptyB (shp 10).1 = false from by decide]
  have HZ := Lib.hid hz
  clear hz
  generalize insB xs sites words met ⟨10, c, a, bb, d, n⟩ = z at HZ ⊢
  obtain ⟨zq, hzq⟩ : ∃ q, zerosB ⟨10, c, a, bb, d, n⟩ = q := ⟨_, rfl⟩
  rw [hzq] at HZ
  have HZQ := Lib.hid hzq
  clear hzq
  have hf0 := field186_0
  have HB := Lib.hid (Below.refl w.heap.size w)
  have HK := Lib.hid hK
  have HA := Lib.hid hA
  clear hK hA
  have HSH := Lib.hid (show ir_shapeOf.f 10 = some (⟨#[111, 119, 110, 108, 111, 97, 100]⟩, ⟨#[65, 66, 111, 110]⟩) from rfl)
  have hu46 := Try.underlying46
  go_enter Try.func112, Try.ntmps112
  go_wp2_with (first
    | (go_at_call 133; refine (ir_shapeOf.calls _ _ _ _ HSH.out).mono ?_; rintro e w1 ⟨rfl, hb⟩; have HI := Lib.hid (blk_below (blk_new w _) hb); have HK := Lib.hid (blk_below (blk_alloc HK.out _) hb); have HA := Lib.hid (Kd.C_below (Kd.C_alloc HA.out _) hb); have HB := Lib.hid (below_step (below_alloc HB.out _) hb); clear hb; obtain ⟨h0, h1, h2, h3, h4, h5⟩ := cells6 HI.out)
    | (go_at_call 134; clear h0 h1 h2 h3 h4 h5; refine (zeros_calls ⟨10, c, a, bb, d, n⟩ _).mono ?_; rw [HZQ.out]; clear HZQ; rintro e w2 ⟨rfl, hb⟩; have HI := Lib.hid (blk_below HI.out hb); have HK := Lib.hid (blk_below HK.out hb); have HA := Lib.hid (Kd.C_below HA.out hb); have HB := Lib.hid (below_step HB.out hb); clear hb; obtain ⟨h0, h1, h2, h3, h4, h5⟩ := cells6 HI.out; cases zq)
    | (go_at_call 135; refine (num_calls _ _ _ _ _ _ ((blk_cell HK.out 0).trans rfl) HA.out).mono ?_; rintro e w' ⟨rfl, rfl⟩; generalize hq : isNum xs _ = q; cases q)
    | (go_at_call 136; refine (ref_calls _ _ _ _ _ _ ((blk_cell HK.out 0).trans rfl) HA.out).mono ?_; rintro e w' ⟨rfl, rfl⟩; generalize hq : isRef xs _ = q; cases q)
    | (go_at_call 137; refine (reg_calls _ _ _ _ _ _ ((blk_cell HK.out 0).trans rfl)).mono ?_; rintro e w' ⟨rfl, rfl⟩; generalize hq : inN _ xs.length = q; cases q)
    )
  all_goals
    go_ret
    refine ⟨?_, HB.out⟩
    rw [HZ.out]
    simp [*] <;> omega
set_option maxHeartbeats 1000000 in
theorem ins_k11 (K b nc bc : Nat) (A B : Option Addr) (xs : List Bool) (nb : Nat) (sites words : Int) (met : List Int) (c a bb d n : Int) (w : World)
    (hK : w.heap[K]? = some (.cells #[.slice A xs.length nc, .int .i64 sites, .slice B nb bc, .int .i64 words, .map (some b)] 148 (0, 0)))
    (hA : Kd.C Kd.bool w A xs.length xs) :
    Calls Try.prog 112 #[.pointer (some ⟨K, 0, none⟩), .agg #[.int .u8 11, .int .u8 c, .int .i64 a, .int .i64 bb, .int .i64 d, .int .i64 n]] w fun e w' => e = .returned (.bool (insB xs sites words met ⟨11, c, a, bb, d, n⟩)) ∧ Below w.heap.size w w' := by
  have hz : insB xs sites words met ⟨11, c, a, bb, d, n⟩ = (zerosB ⟨11, c, a, bb, d, n⟩ && (inN a xs.length && isRef xs bb && (d == -1 || isNum xs d) && decide (0 ≤ n) && decide (n ≤ 64))) := by
    simp [insB, show emptyB (shp 11).1 = false from by decide]
  have HZ := Lib.hid hz
  clear hz
  generalize insB xs sites words met ⟨11, c, a, bb, d, n⟩ = z at HZ ⊢
  obtain ⟨zq, hzq⟩ : ∃ q, zerosB ⟨11, c, a, bb, d, n⟩ = q := ⟨_, rfl⟩
  rw [hzq] at HZ
  have HZQ := Lib.hid hzq
  clear hzq
  have hf0 := field186_0
  have HB := Lib.hid (Below.refl w.heap.size w)
  have HK := Lib.hid hK
  have HA := Lib.hid hA
  clear hK hA
  have HSH := Lib.hid (show ir_shapeOf.f 11 = some (⟨#[111, 119, 110, 115, 116, 111, 114, 101]⟩, ⟨#[65, 66, 111, 110]⟩) from rfl)
  have hu46 := Try.underlying46
  go_enter Try.func112, Try.ntmps112
  go_wp2_with (first
    | (go_at_call 133; refine (ir_shapeOf.calls _ _ _ _ HSH.out).mono ?_; rintro e w1 ⟨rfl, hb⟩; have HI := Lib.hid (blk_below (blk_new w _) hb); have HK := Lib.hid (blk_below (blk_alloc HK.out _) hb); have HA := Lib.hid (Kd.C_below (Kd.C_alloc HA.out _) hb); have HB := Lib.hid (below_step (below_alloc HB.out _) hb); clear hb; obtain ⟨h0, h1, h2, h3, h4, h5⟩ := cells6 HI.out)
    | (go_at_call 134; clear h0 h1 h2 h3 h4 h5; refine (zeros_calls ⟨11, c, a, bb, d, n⟩ _).mono ?_; rw [HZQ.out]; clear HZQ; rintro e w2 ⟨rfl, hb⟩; have HI := Lib.hid (blk_below HI.out hb); have HK := Lib.hid (blk_below HK.out hb); have HA := Lib.hid (Kd.C_below HA.out hb); have HB := Lib.hid (below_step HB.out hb); clear hb; obtain ⟨h0, h1, h2, h3, h4, h5⟩ := cells6 HI.out; cases zq)
    | (go_at_call 135; refine (num_calls _ _ _ _ _ _ ((blk_cell HK.out 0).trans rfl) HA.out).mono ?_; rintro e w' ⟨rfl, rfl⟩; generalize hq : isNum xs _ = q; cases q)
    | (go_at_call 136; refine (ref_calls _ _ _ _ _ _ ((blk_cell HK.out 0).trans rfl) HA.out).mono ?_; rintro e w' ⟨rfl, rfl⟩; generalize hq : isRef xs _ = q; cases q)
    | (go_at_call 137; refine (reg_calls _ _ _ _ _ _ ((blk_cell HK.out 0).trans rfl)).mono ?_; rintro e w' ⟨rfl, rfl⟩; generalize hq : inN _ xs.length = q; cases q)
    )
  all_goals
    go_ret
    refine ⟨?_, HB.out⟩
    rw [HZ.out]
    simp [*] <;> omega
set_option maxHeartbeats 1000000 in
theorem ins_k12 (K b nc bc : Nat) (A B : Option Addr) (xs : List Bool) (nb : Nat) (sites words : Int) (met : List Int) (c a bb d n : Int) (w : World)
    (hK : w.heap[K]? = some (.cells #[.slice A xs.length nc, .int .i64 sites, .slice B nb bc, .int .i64 words, .map (some b)] 148 (0, 0)))
    (hA : Kd.C Kd.bool w A xs.length xs) :
    Calls Try.prog 112 #[.pointer (some ⟨K, 0, none⟩), .agg #[.int .u8 12, .int .u8 c, .int .i64 a, .int .i64 bb, .int .i64 d, .int .i64 n]] w fun e w' => e = .returned (.bool (insB xs sites words met ⟨12, c, a, bb, d, n⟩)) ∧ Below w.heap.size w w' := by
  have hz : insB xs sites words met ⟨12, c, a, bb, d, n⟩ = (zerosB ⟨12, c, a, bb, d, n⟩ && (isNum xs bb)) := by
    simp [insB, show emptyB (shp 12).1 = false from by decide]
  have HZ := Lib.hid hz
  clear hz
  generalize insB xs sites words met ⟨12, c, a, bb, d, n⟩ = z at HZ ⊢
  obtain ⟨zq, hzq⟩ : ∃ q, zerosB ⟨12, c, a, bb, d, n⟩ = q := ⟨_, rfl⟩
  rw [hzq] at HZ
  have HZQ := Lib.hid hzq
  clear hzq
  have hf0 := field186_0
  have HB := Lib.hid (Below.refl w.heap.size w)
  have HK := Lib.hid hK
  have HA := Lib.hid hA
  clear hK hA
  have HSH := Lib.hid (show ir_shapeOf.f 12 = some (⟨#[112, 114, 105, 110, 116]⟩, ⟨#[66]⟩) from rfl)
  have hu46 := Try.underlying46
  go_enter Try.func112, Try.ntmps112
  go_wp2_with (first
    | (go_at_call 133; refine (ir_shapeOf.calls _ _ _ _ HSH.out).mono ?_; rintro e w1 ⟨rfl, hb⟩; have HI := Lib.hid (blk_below (blk_new w _) hb); have HK := Lib.hid (blk_below (blk_alloc HK.out _) hb); have HA := Lib.hid (Kd.C_below (Kd.C_alloc HA.out _) hb); have HB := Lib.hid (below_step (below_alloc HB.out _) hb); clear hb; obtain ⟨h0, h1, h2, h3, h4, h5⟩ := cells6 HI.out)
    | (go_at_call 134; clear h0 h1 h2 h3 h4 h5; refine (zeros_calls ⟨12, c, a, bb, d, n⟩ _).mono ?_; rw [HZQ.out]; clear HZQ; rintro e w2 ⟨rfl, hb⟩; have HI := Lib.hid (blk_below HI.out hb); have HK := Lib.hid (blk_below HK.out hb); have HA := Lib.hid (Kd.C_below HA.out hb); have HB := Lib.hid (below_step HB.out hb); clear hb; obtain ⟨h0, h1, h2, h3, h4, h5⟩ := cells6 HI.out; cases zq)
    | (go_at_call 135; refine (num_calls _ _ _ _ _ _ ((blk_cell HK.out 0).trans rfl) HA.out).mono ?_; rintro e w' ⟨rfl, rfl⟩; generalize hq : isNum xs _ = q; cases q)
    | (go_at_call 136; refine (ref_calls _ _ _ _ _ _ ((blk_cell HK.out 0).trans rfl) HA.out).mono ?_; rintro e w' ⟨rfl, rfl⟩; generalize hq : isRef xs _ = q; cases q)
    | (go_at_call 137; refine (reg_calls _ _ _ _ _ _ ((blk_cell HK.out 0).trans rfl)).mono ?_; rintro e w' ⟨rfl, rfl⟩; generalize hq : inN _ xs.length = q; cases q)
    )
  all_goals
    go_ret
    refine ⟨?_, HB.out⟩
    rw [HZ.out]
    simp [*] <;> omega
set_option maxHeartbeats 1000000 in
theorem ins_k13 (K b nc bc : Nat) (A B : Option Addr) (xs : List Bool) (nb : Nat) (sites words : Int) (met : List Int) (c a bb d n : Int) (w : World)
    (hK : w.heap[K]? = some (.cells #[.slice A xs.length nc, .int .i64 sites, .slice B nb bc, .int .i64 words, .map (some b)] 148 (0, 0)))
    (hA : Kd.C Kd.bool w A xs.length xs) :
    Calls Try.prog 112 #[.pointer (some ⟨K, 0, none⟩), .agg #[.int .u8 13, .int .u8 c, .int .i64 a, .int .i64 bb, .int .i64 d, .int .i64 n]] w fun e w' => e = .returned (.bool (insB xs sites words met ⟨13, c, a, bb, d, n⟩)) ∧ Below w.heap.size w w' := by
  have hz : insB xs sites words met ⟨13, c, a, bb, d, n⟩ = (zerosB ⟨13, c, a, bb, d, n⟩ && (true)) := by
    simp [insB, show emptyB (shp 13).1 = false from by decide]
  have HZ := Lib.hid hz
  clear hz
  generalize insB xs sites words met ⟨13, c, a, bb, d, n⟩ = z at HZ ⊢
  obtain ⟨zq, hzq⟩ : ∃ q, zerosB ⟨13, c, a, bb, d, n⟩ = q := ⟨_, rfl⟩
  rw [hzq] at HZ
  have HZQ := Lib.hid hzq
  clear hzq
  have hf0 := field186_0
  have HB := Lib.hid (Below.refl w.heap.size w)
  have HK := Lib.hid hK
  have HA := Lib.hid hA
  clear hK hA
  have HSH := Lib.hid (show ir_shapeOf.f 13 = some (⟨#[98, 101, 103, 105, 110]⟩, ⟨#[]⟩) from rfl)
  have hu46 := Try.underlying46
  go_enter Try.func112, Try.ntmps112
  go_wp2_with (first
    | (go_at_call 133; refine (ir_shapeOf.calls _ _ _ _ HSH.out).mono ?_; rintro e w1 ⟨rfl, hb⟩; have HI := Lib.hid (blk_below (blk_new w _) hb); have HK := Lib.hid (blk_below (blk_alloc HK.out _) hb); have HA := Lib.hid (Kd.C_below (Kd.C_alloc HA.out _) hb); have HB := Lib.hid (below_step (below_alloc HB.out _) hb); clear hb; obtain ⟨h0, h1, h2, h3, h4, h5⟩ := cells6 HI.out)
    | (go_at_call 134; clear h0 h1 h2 h3 h4 h5; refine (zeros_calls ⟨13, c, a, bb, d, n⟩ _).mono ?_; rw [HZQ.out]; clear HZQ; rintro e w2 ⟨rfl, hb⟩; have HI := Lib.hid (blk_below HI.out hb); have HK := Lib.hid (blk_below HK.out hb); have HA := Lib.hid (Kd.C_below HA.out hb); have HB := Lib.hid (below_step HB.out hb); clear hb; obtain ⟨h0, h1, h2, h3, h4, h5⟩ := cells6 HI.out; cases zq)
    | (go_at_call 135; refine (num_calls _ _ _ _ _ _ ((blk_cell HK.out 0).trans rfl) HA.out).mono ?_; rintro e w' ⟨rfl, rfl⟩; generalize hq : isNum xs _ = q; cases q)
    | (go_at_call 136; refine (ref_calls _ _ _ _ _ _ ((blk_cell HK.out 0).trans rfl) HA.out).mono ?_; rintro e w' ⟨rfl, rfl⟩; generalize hq : isRef xs _ = q; cases q)
    | (go_at_call 137; refine (reg_calls _ _ _ _ _ _ ((blk_cell HK.out 0).trans rfl)).mono ?_; rintro e w' ⟨rfl, rfl⟩; generalize hq : inN _ xs.length = q; cases q)
    )
  all_goals
    go_ret
    refine ⟨?_, HB.out⟩
    rw [HZ.out]
    simp [*] <;> omega
set_option maxHeartbeats 1000000 in
theorem ins_k14 (K b nc bc : Nat) (A B : Option Addr) (xs : List Bool) (nb : Nat) (sites words : Int) (met : List Int) (c a bb d n : Int) (w : World)
    (hK : w.heap[K]? = some (.cells #[.slice A xs.length nc, .int .i64 sites, .slice B nb bc, .int .i64 words, .map (some b)] 148 (0, 0)))
    (hA : Kd.C Kd.bool w A xs.length xs) :
    Calls Try.prog 112 #[.pointer (some ⟨K, 0, none⟩), .agg #[.int .u8 14, .int .u8 c, .int .i64 a, .int .i64 bb, .int .i64 d, .int .i64 n]] w fun e w' => e = .returned (.bool (insB xs sites words met ⟨14, c, a, bb, d, n⟩)) ∧ Below w.heap.size w w' := by
  have hz : insB xs sites words met ⟨14, c, a, bb, d, n⟩ = (zerosB ⟨14, c, a, bb, d, n⟩ && (true)) := by
    simp [insB, show emptyB (shp 14).1 = false from by decide]
  have HZ := Lib.hid hz
  clear hz
  generalize insB xs sites words met ⟨14, c, a, bb, d, n⟩ = z at HZ ⊢
  obtain ⟨zq, hzq⟩ : ∃ q, zerosB ⟨14, c, a, bb, d, n⟩ = q := ⟨_, rfl⟩
  rw [hzq] at HZ
  have HZQ := Lib.hid hzq
  clear hzq
  have hf0 := field186_0
  have HB := Lib.hid (Below.refl w.heap.size w)
  have HK := Lib.hid hK
  have HA := Lib.hid hA
  clear hK hA
  have HSH := Lib.hid (show ir_shapeOf.f 14 = some (⟨#[101, 110, 100]⟩, ⟨#[]⟩) from rfl)
  have hu46 := Try.underlying46
  go_enter Try.func112, Try.ntmps112
  go_wp2_with (first
    | (go_at_call 133; refine (ir_shapeOf.calls _ _ _ _ HSH.out).mono ?_; rintro e w1 ⟨rfl, hb⟩; have HI := Lib.hid (blk_below (blk_new w _) hb); have HK := Lib.hid (blk_below (blk_alloc HK.out _) hb); have HA := Lib.hid (Kd.C_below (Kd.C_alloc HA.out _) hb); have HB := Lib.hid (below_step (below_alloc HB.out _) hb); clear hb; obtain ⟨h0, h1, h2, h3, h4, h5⟩ := cells6 HI.out)
    | (go_at_call 134; clear h0 h1 h2 h3 h4 h5; refine (zeros_calls ⟨14, c, a, bb, d, n⟩ _).mono ?_; rw [HZQ.out]; clear HZQ; rintro e w2 ⟨rfl, hb⟩; have HI := Lib.hid (blk_below HI.out hb); have HK := Lib.hid (blk_below HK.out hb); have HA := Lib.hid (Kd.C_below HA.out hb); have HB := Lib.hid (below_step HB.out hb); clear hb; obtain ⟨h0, h1, h2, h3, h4, h5⟩ := cells6 HI.out; cases zq)
    | (go_at_call 135; refine (num_calls _ _ _ _ _ _ ((blk_cell HK.out 0).trans rfl) HA.out).mono ?_; rintro e w' ⟨rfl, rfl⟩; generalize hq : isNum xs _ = q; cases q)
    | (go_at_call 136; refine (ref_calls _ _ _ _ _ _ ((blk_cell HK.out 0).trans rfl) HA.out).mono ?_; rintro e w' ⟨rfl, rfl⟩; generalize hq : isRef xs _ = q; cases q)
    | (go_at_call 137; refine (reg_calls _ _ _ _ _ _ ((blk_cell HK.out 0).trans rfl)).mono ?_; rintro e w' ⟨rfl, rfl⟩; generalize hq : inN _ xs.length = q; cases q)
    )
  all_goals
    go_ret
    refine ⟨?_, HB.out⟩
    rw [HZ.out]
    simp [*] <;> omega
end Go.Proofs.Ytjmeignhhheckaa.H
namespace Go.Proofs.Ytjmeignhhheckaa.H
open Go.RowKit Go.Proofs.YtjmeignhhheckaaW.PrintWords Go.Proofs.YtjmeignhhheckaaW.PrintLast Go.Proofs.Ytjmeignhhheckaa.Q
set_option maxRecDepth 100000
theorem ref_quiet (K c : Nat) (A : Option Addr) (xs : List Bool) (r : Int) (w : World) (hK : w.cell? ⟨K, 0, none⟩ = some (.slice A xs.length c)) (hA : Kd.C Kd.bool w A xs.length xs) {b : Bool} (hb : isRef xs r = b) :
    Calls Try.prog 136 #[.pointer (some ⟨K, 0, none⟩), .int .i64 r] w fun e w' => e = .returned (.bool b) ∧ w' = w :=
  (ref_calls K c A xs r w hK hA).mono fun _ _ ⟨h, k⟩ => ⟨by rw [h, hb], k.symm⟩
set_option maxHeartbeats 1000000 in
theorem ins_k6 (K b nc bc : Nat) (A B : Option Addr) (xs : List Bool) (nb : Nat) (sites words : Int) (met : List Int) (c a bb d n : Int) (w : World)
    (hK : w.heap[K]? = some (.cells #[.slice A xs.length nc, .int .i64 sites, .slice B nb bc, .int .i64 words, .map (some b)] 148 (0, 0)))
    (hA : Kd.C Kd.bool w A xs.length xs) :
    Calls Try.prog 112 #[.pointer (some ⟨K, 0, none⟩), .agg #[.int .u8 6, .int .u8 c, .int .i64 a, .int .i64 bb, .int .i64 d, .int .i64 n]] w fun e w' => e = .returned (.bool (insB xs sites words met ⟨6, c, a, bb, d, n⟩)) ∧ Below w.heap.size w w' := by
  have hz : insB xs sites words met ⟨6, c, a, bb, d, n⟩ = (zerosB ⟨6, c, a, bb, d, n⟩ && (isRef xs a && decide (1 ≤ n) && decide (n ≤ words))) := by
    simp [insB, show emptyB (shp 6).1 = false from by decide]
  have HZ := Lib.hid hz
  clear hz
  generalize insB xs sites words met ⟨6, c, a, bb, d, n⟩ = z at HZ ⊢
  obtain ⟨zq, hzq⟩ : ∃ q, zerosB ⟨6, c, a, bb, d, n⟩ = q := ⟨_, rfl⟩
  rw [hzq] at HZ
  have HZQ := Lib.hid hzq
  clear hzq
  have hf0 := field186_0
  have HB := Lib.hid (Below.refl w.heap.size w)
  have HK := Lib.hid hK
  have HA := Lib.hid hA
  clear hK hA
  have HSH := Lib.hid (show ir_shapeOf.f 6 = some (⟨#[115, 104, 97, 114, 101, 100]⟩, ⟨#[65, 110]⟩) from rfl)
  have hu46 := Try.underlying46
  go_enter Try.func112, Try.ntmps112
  go_wp2_with (first
    | (go_at_call 133; refine (ir_shapeOf.calls _ _ _ _ HSH.out).mono ?_; rintro e w1 ⟨rfl, hb⟩; have HI := Lib.hid (blk_below (blk_new w _) hb); have HK := Lib.hid (blk_below (blk_alloc HK.out _) hb); have HA := Lib.hid (Kd.C_below (Kd.C_alloc HA.out _) hb); have HB := Lib.hid (below_step (below_alloc HB.out _) hb); clear hb; obtain ⟨h0, h1, h2, h3, h4, h5⟩ := cells6 HI.out)
    | (go_at_call 134; clear h0 h1 h2 h3 h4 h5; refine (zeros_calls ⟨6, c, a, bb, d, n⟩ _).mono ?_; rw [HZQ.out]; clear HZQ; rintro e w2 ⟨rfl, hb⟩; have HI := Lib.hid (blk_below HI.out hb); have HK := Lib.hid (blk_below HK.out hb); have HA := Lib.hid (Kd.C_below HA.out hb); have HB := Lib.hid (below_step HB.out hb); clear hb; obtain ⟨h0, h1, h2, h3, h4, h5⟩ := cells6 HI.out; cases zq)
    )
  · go_ret
    refine ⟨?_, HB.out⟩
    rw [HZ.out]
    simp [*]
  · have hk0 := (blk_cell HK.out 0).trans rfl
    have hk3 : w2.cell? ⟨K, 3, none⟩ = some (.int .i64 words) := (blk_cell HK.out 3).trans rfl
    cases hq : isRef xs a
    · go_quiet ((go_at_call 136; exact Calls.quiet_of_same (ref_quiet _ _ _ _ _ _ (by exact hk0) (by exact Kd.C_drewN HA.out _) hq)))
      go_wp2
      go_ret
      refine ⟨?_, ?_⟩
      · rw [HZ.out]; simp [*]
      · exact pw_below_drewN HB.out _
    · by_cases h1n : 1 ≤ n
      · have hd1 : decide (1 ≤ n) = true := by simpa using h1n
        by_cases h2n : n ≤ words
        · have hd2 : decide (n ≤ words) = true := by simpa using h2n
          go_quiet ((go_at_call 136; exact Calls.quiet_of_same (ref_quiet _ _ _ _ _ _ (by exact hk0) (by exact Kd.C_drewN HA.out _) hq)))
          go_wp2
          go_ret
          exact ⟨by rw [HZ.out]; simp [*], pw_below_drewN HB.out _⟩
        · have hd2 : decide (n ≤ words) = false := by simpa using h2n
          go_quiet ((go_at_call 136; exact Calls.quiet_of_same (ref_quiet _ _ _ _ _ _ (by exact hk0) (by exact Kd.C_drewN HA.out _) hq)))
          go_wp2
          go_ret
          exact ⟨by rw [HZ.out]; simp [*], pw_below_drewN HB.out _⟩
      · have hd1 : decide (1 ≤ n) = false := by simpa using h1n
        go_quiet ((go_at_call 136; exact Calls.quiet_of_same (ref_quiet _ _ _ _ _ _ (by exact hk0) (by exact Kd.C_drewN HA.out _) hq)))
        go_wp2
        go_ret
        exact ⟨by rw [HZ.out]; simp [*], pw_below_drewN HB.out _⟩
end Go.Proofs.Ytjmeignhhheckaa.H
namespace Go.Proofs.Ytjmeignhhheckaa.H
open Go.RowKit Go.Maps Go.Proofs.YtjmeignhhheckaaW.PrintWords Go.Proofs.YtjmeignhhheckaaW.PrintLast Go.Proofs.Ytjmeignhhheckaa.Q
set_option maxRecDepth 100000
theorem keyed3 : Keyed Try.prog 3 := int_keyed Try.underlying3
theorem zero3 (w : World) : (zeroValue 3).run Try.prog w = .ok (.int .i64 0) w := by kernel_rfl
/-- the sites that have been met, counted -/
def SMap (w : World) (b n : Nat) (met : List Int) : Prop := ∃ D : DataW Unit, w.ownsMap Try.prog 3 (plainElem Try.prog 3) b n D ∧ ∀ x : Int, (Lit.int .i64 x).wf = true → D.atKey (.int .i64 x) (.lit (.int .i64 0)) = .lit (.int .i64 (if met.contains x then 1 else 0))
theorem SMap.lt {w : World} {b n : Nat} {met : List Int} (h : SMap w b n met) : b < w.heap.size := by
  obtain ⟨D, h, _⟩ := h
  exact h.lt
theorem SMap.ne_cells {w : World} {b n g t : Nat} {met : List Int} {cs : Array Value} {fz : Nat × Nat} (h : SMap w b n met) (hg : w.heap[g]? = some (.cells cs t fz)) : some g ≠ some b := by
  obtain ⟨D, ⟨es, clock, hb, _⟩, _⟩ := h
  intro e
  have e := Option.some.inj e
  subst e
  rw [hb] at hg
  cases hg
theorem SMap.made (w : World) : SMap (w.alloc (.map #[] 0)) w.heap.size 0 [] := ⟨.map [], World.ownsMap_made _ _ _ _, fun x _ => rfl⟩
theorem SMap.kept {w w' : World} {b n : Nat} {met : List Int} (h : SMap w b n met) {row : Option Nat} (hg : w.grownBy w' row) (hne : some b ≠ row) : SMap w' b n met := by
  obtain ⟨D, h, hD⟩ := h
  exact ⟨D, h.kept hg hne, hD⟩
theorem SMap.below {w w' : World} {b n : Nat} {met : List Int} (h : SMap w b n met) (hb : Below w.heap.size w w') : SMap w' b n met := h.kept (grown_of_below hb none) (by simp)
theorem SMap.alloc {w : World} {b n : Nat} {met : List Int} (h : SMap w b n met) (o : Obj) : SMap (w.alloc o) b n met := h.below ((Below.refl _ w).alloc (Nat.le_refl _) o)
theorem SMap.drewN {w : World} {b n : Nat} {met : List Int} (h : SMap w b n met) (k : Nat) : SMap (w.drewN k) b n met := h.below (pw_below_drewN (Below.refl _ w) k)
theorem SMap.look {w : World} {b n : Nat} {met : List Int} (h : SMap w b n met) {x : Int} (hx : (Lit.int .i64 x).wf = true) :
    (Instr.lookup 146 (.map (some b)) (.int .i64 x) false).run Try.prog w = .ok (.int .i64 (if met.contains x then 1 else 0)) w := by
  obtain ⟨D, h, hD⟩ := h
  obtain ⟨c, hrun, hat, _⟩ := h.lookup_int keyed3 Try.underlying146 Try.underlying3 (zero3 _) (keyOf_int_mk Try.underlying3 hx)
  rw [hD x hx] at hat
  have : c = if met.contains x then 1 else 0 := by
    have h2 := DataW.lit.inj hat
    exact (Lit.int.inj h2).2.symm
  rw [hrun, this]
theorem isKey (x : Int) : WideAt.IsKeyLit (.int .i64 x) := by
  exact trivial
theorem SMap.put {w : World} {b n : Nat} {met : List Int} (h : SMap w b n met) (hn : n < maxLen) {x v : Int} (hx : (Lit.int .i64 x).wf = true) (hv : (Lit.int .i64 v).wf = true) :
    ∃ w', (Instr.mapUpdate 146 (.map (some b)) (.int .i64 x) (.int .i64 v)).run Try.prog w = .ok () w' ∧ w.grownBy w' (some b) ∧ (v = 1 → SMap w' b (n + 1) (x :: met)) ∧ ∀ m, (Instr.lookup 146 (.map (some b)) (.int .i64 x) false).run Try.prog (w'.drewN m) = .ok (.int .i64 v) (w'.drewN m) := by
  obtain ⟨D, h, hD⟩ := h
  obtain ⟨w', hrun, hown, hg⟩ := h.update keyed3 Try.underlying146 hn (keyOf_int_mk Try.underlying3 hx) (plainElem_int Try.underlying3 hv)
  refine ⟨w', hrun, hg, ?_, ?_⟩
  · rintro rfl
    refine ⟨_, hown, fun y hy => ?_⟩
    by_cases e : y = x
    · subst e
      rw [atKey_put_same h.isMap (isKey _)]
      simp
    · rw [atKey_put_other (by intro e2; exact e (Lit.int.inj e2).2), hD y hy]
      simp [e]
  · intro m
    have hown2 : (w'.drewN m).ownsMap Try.prog 3 (plainElem Try.prog 3) b (n + 1) _ := hown
    obtain ⟨c, hrun, hat, _⟩ := hown2.lookup_int keyed3 Try.underlying146 Try.underlying3 (zero3 _) (keyOf_int_mk Try.underlying3 hx)
    rw [atKey_put_same h.isMap (isKey _)] at hat
    have : c = v := (Lit.int.inj (DataW.lit.inj hat)).2.symm
    rw [hrun, this]
theorem wf64 {d : Int} (h0 : -4611686018427387904 ≤ d) (h1 : d ≤ 4611686018427387904) : (Lit.int .i64 d).wf = true := by
  simp [Lit.wf, IntKind.min, IntKind.max, IntKind.signed, IntKind.bits]
  omega
end Go.Proofs.Ytjmeignhhheckaa.H
namespace Go.Proofs.Ytjmeignhhheckaa.H
open Go.RowKit Go.Maps Go.Proofs.YtjmeignhhheckaaW.PrintWords Go.Proofs.YtjmeignhhheckaaW.PrintLast Go.Proofs.Ytjmeignhhheckaa.Q
set_option maxRecDepth 100000
set_option maxHeartbeats 1000000 in
theorem ins_k7 (K b nc bc N : Nat) (A B : Option Addr) (xs : List Bool) (nb : Nat) (sites words : Int) (met : List Int) (c a bb d n : Int) (w : World)
    (hK : w.heap[K]? = some (.cells #[.slice A xs.length nc, .int .i64 sites, .slice B nb bc, .int .i64 words, .map (some b)] 148 (0, 0)))
    (hA : Kd.C Kd.bool w A xs.length xs) (hM : SMap w b N met) (hN : N < maxLen) (hst : sites ≤ 8192) :
    Calls Try.prog 112 #[.pointer (some ⟨K, 0, none⟩), .agg #[.int .u8 7, .int .u8 c, .int .i64 a, .int .i64 bb, .int .i64 d, .int .i64 n]] w fun e w' => e = .returned (.bool (insB xs sites words met ⟨7, c, a, bb, d, n⟩)) ∧ w.grownBy w' (some b) ∧ (insB xs sites words met ⟨7, c, a, bb, d, n⟩ = true → SMap w' b (N + 1) (d :: met)) := by
  have hz : insB xs sites words met ⟨7, c, a, bb, d, n⟩ = (zerosB ⟨7, c, a, bb, d, n⟩ && (isRef xs a && decide (1 ≤ n) && decide (n ≤ 64) && decide (0 ≤ d) && decide (d < sites) && !(met.contains d))) := by
    simp [insB, show emptyB (shp 7).1 = false from by decide]
  have HZ := Lib.hid hz
  clear hz
  generalize insB xs sites words met ⟨7, c, a, bb, d, n⟩ = z at HZ ⊢
  obtain ⟨zq, hzq⟩ : ∃ q, zerosB ⟨7, c, a, bb, d, n⟩ = q := ⟨_, rfl⟩
  rw [hzq] at HZ
  have HZQ := Lib.hid hzq
  clear hzq
  have hf0 := field186_0
  have HB := Lib.hid (Below.refl w.heap.size w)
  have HK := Lib.hid hK
  have HA := Lib.hid hA
  have HM := Lib.hid hM
  have HN := Lib.hid hN
  clear hK hA hM hN
  have HSH := Lib.hid (show ir_shapeOf.f 7 = some (⟨#[110, 101, 119]⟩, ⟨#[65, 110, 115]⟩) from rfl)
  have hu46 := Try.underlying46
  go_enter Try.func112, Try.ntmps112
  go_wp2_with (first
    | (go_at_call 133; refine (ir_shapeOf.calls _ _ _ _ HSH.out).mono ?_; rintro e w1 ⟨rfl, hb⟩; have HI := Lib.hid (blk_below (blk_new w _) hb); have HK := Lib.hid (blk_below (blk_alloc HK.out _) hb); have HA := Lib.hid (Kd.C_below (Kd.C_alloc HA.out _) hb); have HM := Lib.hid ((HM.out.alloc _).below hb); have HB := Lib.hid (below_step (below_alloc HB.out _) hb); clear hb; obtain ⟨h0, h1, h2, h3, h4, h5⟩ := cells6 HI.out)
    | (go_at_call 134; clear h0 h1 h2 h3 h4 h5; refine (zeros_calls ⟨7, c, a, bb, d, n⟩ _).mono ?_; rw [HZQ.out]; clear HZQ; rintro e w2 ⟨rfl, hb⟩; have HI := Lib.hid (blk_below HI.out hb); have HK := Lib.hid (blk_below HK.out hb); have HA := Lib.hid (Kd.C_below HA.out hb); have HM := Lib.hid (HM.out.below hb); have HB := Lib.hid (below_step HB.out hb); clear hb; obtain ⟨h0, h1, h2, h3, h4, h5⟩ := cells6 HI.out; cases zq)
    )
  · go_ret
    refine ⟨?_, grown_of_below HB.out _, ?_⟩
    · rw [HZ.out]; simp [*]
    · intro h; rw [HZ.out] at h; simp at h
  · have hk0 := (blk_cell HK.out 0).trans rfl
    have hk1 : w2.cell? ⟨K, 1, none⟩ = some (.int .i64 sites) := (blk_cell HK.out 1).trans rfl
    cases hq : isRef xs a
    · go_quiet ((go_at_call 136; exact Calls.quiet_of_same (ref_quiet _ _ _ _ _ _ (by exact hk0) (by exact Kd.C_drewN HA.out _) hq)))
      go_wp2
      go_ret
      exact ⟨by rw [HZ.out]; simp [*], grown_of_below (pw_below_drewN HB.out _) _, fun h => by rw [HZ.out] at h; simp [*] at h⟩
    by_cases h1n : n < 1
    · have hd1 : decide (n < 1) = true := by simpa using h1n
      go_quiet ((go_at_call 136; exact Calls.quiet_of_same (ref_quiet _ _ _ _ _ _ (by exact hk0) (by exact Kd.C_drewN HA.out _) hq)))
      go_wp2
      go_ret
      have hx : z = false := by rw [HZ.out]; simp [*]; omega
      exact ⟨by rw [hx]; rfl, grown_of_below (pw_below_drewN HB.out _) _, fun h => by rw [hx] at h; cases h⟩
    have hd1 : decide (n < 1) = false := by simpa using h1n
    by_cases h2n : 64 < n
    · have hd2 : decide (64 < n) = true := by simpa using h2n
      go_quiet ((go_at_call 136; exact Calls.quiet_of_same (ref_quiet _ _ _ _ _ _ (by exact hk0) (by exact Kd.C_drewN HA.out _) hq)))
      go_wp2
      go_ret
      have hx : z = false := by rw [HZ.out]; simp [*]; omega
      exact ⟨by rw [hx]; rfl, grown_of_below (pw_below_drewN HB.out _) _, fun h => by rw [hx] at h; cases h⟩
    have hd2 : decide (64 < n) = false := by simpa using h2n
    by_cases h3n : d < 0
    · have hd3 : decide (d < 0) = true := by simpa using h3n
      go_quiet ((go_at_call 136; exact Calls.quiet_of_same (ref_quiet _ _ _ _ _ _ (by exact hk0) (by exact Kd.C_drewN HA.out _) hq)))
      go_wp2
      go_ret
      have hx : z = false := by rw [HZ.out]; simp [*]; omega
      exact ⟨by rw [hx]; rfl, grown_of_below (pw_below_drewN HB.out _) _, fun h => by rw [hx] at h; cases h⟩
    have hd3 : decide (d < 0) = false := by simpa using h3n
    by_cases h4n : sites ≤ d
    · have hd4 : decide (sites ≤ d) = true := by simpa using h4n
      go_quiet ((go_at_call 136; exact Calls.quiet_of_same (ref_quiet _ _ _ _ _ _ (by exact hk0) (by exact Kd.C_drewN HA.out _) hq)))
      go_wp2
      go_ret
      have hx : z = false := by rw [HZ.out]; simp [*]; omega
      exact ⟨by rw [hx]; rfl, grown_of_below (pw_below_drewN HB.out _) _, fun h => by rw [hx] at h; cases h⟩
    have hd4 : decide (sites ≤ d) = false := by simpa using h4n
    go_quiet ((go_at_call 136; exact Calls.quiet_of_same (ref_quiet _ _ _ _ _ _ (by exact hk0) (by exact Kd.C_drewN HA.out _) hq)))
    clear hd1 hd2 hd3 hd4
    have hzz : z = !(met.contains d) := by rw [HZ.out]; simp [*]; intros; omega
    have HZ := Lib.hid hzz
    clear hzz
    have HI2 := Lib.hid (show (w2.drewN nq).heap[w.heap.size]? = _ from HI.out)
    have HK2 := Lib.hid (show (w2.drewN nq).heap[K]? = _ from HK.out)
    have HM2 := Lib.hid (HM.out.drewN nq)
    have HB2 := Lib.hid (pw_below_drewN HB.out nq)
    clear HI HK HM HB hk0 hk1 h0 h1 h2 h3 h4 h5 HA
    generalize w2.drewN nq = w3 at *
    go_wp2
    have hwf : (Lit.int .i64 d).wf = true := wf64 (by omega) (by omega)
    obtain ⟨h0, h1, h2, h3, h4, h5⟩ := cells6 HI2.out
    have hk2 : w3.cell? ⟨K, 4, none⟩ = some (.map (some b)) := (blk_cell HK2.out 4).trans rfl
    have HM3 : SMap w3.drew b N met := HM2.out.drewN 1
    have hl := HM3.look hwf
    have HM3 := Lib.hid HM3
    have HB3 := Lib.hid (below_drew HB2.out)
    have hbI := HM2.out.ne_cells HI2.out
    have hbK := HM2.out.ne_cells HK2.out
    have HbI := Lib.hid hbI
    have HbK := Lib.hid hbK
    clear hbI hbK
    cases hmet : met.contains d
    · rw [hmet] at hl
      simp only [Bool.false_eq_true, if_false] at hl
      obtain ⟨w4, hrun, hg, hsm, hl2⟩ := HM3.out.put HN.out (v := 1) hwf (by decide)
      have HG := Lib.hid hg
      have HSM := Lib.hid (hsm rfl)
      have hl3 : (Instr.lookup 146 (.map (some b)) (.int .i64 d) false).run Try.prog w4.drew = .ok (.int .i64 1) w4.drew := hl2 1
      clear hsm hg hl2
      have HI4 := Lib.hid (blk_grown (blk_drew HI2.out) HG.out HbI.out)
      have HK4 := Lib.hid (blk_grown (blk_drew HK2.out) HG.out HbK.out)
      refine wp_region_still_tail 8 (by kernel_rfl) (by kernel_rfl) ?_
      simp only [List.take_succ_cons, List.take_zero, List.drop_succ_cons, List.drop_zero]
      repeat still_step
      refine wpStill_nil ?_
      go_wp2
      rw [hrun]
      clear h0 h1 h2 h3 h4 h5 hk2 hl hrun
      obtain ⟨h0, h1, h2, h3, h4, h5⟩ := cells6 HI4.out
      have hk2 : w4.cell? ⟨K, 4, none⟩ = some (.map (some b)) := (blk_cell HK4.out 4).trans rfl
      go_wp2
      go_still (by kernel_rfl)
      go_wp2
      go_ret
      exact ⟨by rw [HZ.out, hmet]; rfl, ((grown_of_below HB3.out (some b)).trans HG.out).trans (grown_of_below (pw_below_drewN (Below.refl _ w4) 1) _), fun _ => HSM.out.drewN 1⟩
    · rw [hmet] at hl
      simp only [if_true] at hl
      obtain ⟨w4, hrun, hg, hsm, hl2⟩ := HM3.out.put HN.out (v := 2) hwf (by decide)
      have HG := Lib.hid hg
      have hl3 : (Instr.lookup 146 (.map (some b)) (.int .i64 d) false).run Try.prog w4.drew = .ok (.int .i64 2) w4.drew := hl2 1
      clear hsm hg hl2
      have HI4 := Lib.hid (blk_grown (blk_drew HI2.out) HG.out HbI.out)
      have HK4 := Lib.hid (blk_grown (blk_drew HK2.out) HG.out HbK.out)
      refine wp_region_still_tail 8 (by kernel_rfl) (by kernel_rfl) ?_
      simp only [List.take_succ_cons, List.take_zero, List.drop_succ_cons, List.drop_zero]
      repeat still_step
      refine wpStill_nil ?_
      go_wp2
      rw [hrun]
      clear h0 h1 h2 h3 h4 h5 hk2 hl hrun
      obtain ⟨h0, h1, h2, h3, h4, h5⟩ := cells6 HI4.out
      have hk2 : w4.cell? ⟨K, 4, none⟩ = some (.map (some b)) := (blk_cell HK4.out 4).trans rfl
      go_wp2
      go_still (by kernel_rfl)
      go_wp2
      go_ret
      have hx : z = false := by rw [HZ.out, hmet]; rfl
      exact ⟨by rw [hx]; rfl, ((grown_of_below HB3.out (some b)).trans HG.out).trans (grown_of_below (pw_below_drewN (Below.refl _ w4) 1) _), fun h => by rw [hx] at h; cases h⟩
end Go.Proofs.Ytjmeignhhheckaa.H
namespace Go.Proofs.Ytjmeignhhheckaa.H
open Go.RowKit Go.Maps Go.Proofs.YtjmeignhhheckaaW.PrintWords Go.Proofs.YtjmeignhhheckaaW.PrintLast Go.Proofs.Ytjmeignhhheckaa.Q
set_option maxRecDepth 100000
theorem SMap.mono {w : World} {b n m : Nat} {met : List Int} (h : SMap w b n met) (hn : n ≤ m) : SMap w b m met := by
  obtain ⟨D, h, hD⟩ := h
  exact ⟨D, h.mono hn, hD⟩
theorem shp_other (k : Int) (h : ∀ j : Nat, 1 ≤ j → j ≤ 14 → k ≠ j) : shp k = (⟨#[]⟩, ⟨#[]⟩) := by
  unfold shp ir_shapeOf.f
  iterate 14 (rw [if_neg (by first | exact h 1 (by omega) (by omega) | exact h 2 (by omega) (by omega) | exact h 3 (by omega) (by omega) | exact h 4 (by omega) (by omega) | exact h 5 (by omega) (by omega) | exact h 6 (by omega) (by omega) | exact h 7 (by omega) (by omega) | exact h 8 (by omega) (by omega) | exact h 9 (by omega) (by omega) | exact h 10 (by omega) (by omega) | exact h 11 (by omega) (by omega) | exact h 12 (by omega) (by omega) | exact h 13 (by omega) (by omega) | exact h 14 (by omega) (by omega))])
  rfl
theorem ins_kx (K b nc bc : Nat) (A B : Option Addr) (xs : List Bool) (nb : Nat) (sites words : Int) (met : List Int) (k c a bb d n : Int) (w : World)
    (hk : shp k = (⟨#[]⟩, ⟨#[]⟩))
    (hK : w.heap[K]? = some (.cells #[.slice A xs.length nc, .int .i64 sites, .slice B nb bc, .int .i64 words, .map (some b)] 148 (0, 0))) :
    Calls Try.prog 112 #[.pointer (some ⟨K, 0, none⟩), .agg #[.int .u8 k, .int .u8 c, .int .i64 a, .int .i64 bb, .int .i64 d, .int .i64 n]] w fun e w' => e = .returned (.bool (insB xs sites words met ⟨k, c, a, bb, d, n⟩)) ∧ Below w.heap.size w w' := by
  have hz : insB xs sites words met ⟨k, c, a, bb, d, n⟩ = false := by
    simp [insB, hk, show emptyB (⟨#[]⟩ : ByteArray) = true from by decide]
  rw [hz]
  have HB := Lib.hid (Below.refl w.heap.size w)
  have hf0 := field186_0
  have hsh := shp_f k
  rw [hk] at hsh
  have HSH := Lib.hid hsh
  clear hsh hk hz
  have hu46 := Try.underlying46
  go_enter Try.func112, Try.ntmps112
  go_wp2_with (go_at_call 133; refine (ir_shapeOf.calls _ _ _ _ HSH.out).mono ?_; rintro e w1 ⟨rfl, hb⟩; have HB := Lib.hid (below_step (below_alloc HB.out _) hb); clear hb)
  go_ret
  exact ⟨rfl, HB.out⟩
/-- the sites behind an instruction -/
def metOf (i : S46) (met : List Int) : List Int := if i.f0 = 7 then i.f4 :: met else met
theorem ins_of {w : World} {f : Nat} {args : Array Value} {z : Bool} {b N : Nat} {met : List Int}
    (h : Calls Try.prog f args w fun e w' => e = .returned (.bool z) ∧ Below w.heap.size w w') (hM : SMap w b N met) :
    Calls Try.prog f args w fun e w' => e = .returned (.bool z) ∧ w.grownBy w' (some b) ∧ (z = true → SMap w' b (N + 1) met) :=
  h.mono fun _ _ ⟨he, hb⟩ => ⟨he, grown_of_below hb _, fun _ => (hM.below hb).mono (by omega)⟩
theorem ins_calls (K b nc bc N : Nat) (A B : Option Addr) (xs : List Bool) (nb : Nat) (sites words : Int) (met : List Int) (i : S46) (w : World)
    (hK : w.heap[K]? = some (.cells #[.slice A xs.length nc, .int .i64 sites, .slice B nb bc, .int .i64 words, .map (some b)] 148 (0, 0)))
    (hA : Kd.C Kd.bool w A xs.length xs) (hM : SMap w b N met) (hN : N < maxLen) (hst : sites ≤ 8192) :
    Calls Try.prog 112 #[.pointer (some ⟨K, 0, none⟩), .agg #[.int .u8 i.f0, .int .u8 i.f1, .int .i64 i.f2, .int .i64 i.f3, .int .i64 i.f4, .int .i64 i.f5]] w fun e w' => e = .returned (.bool (insB xs sites words met i)) ∧ w.grownBy w' (some b) ∧ (insB xs sites words met i = true → SMap w' b (N + 1) (metOf i met)) := by
  obtain ⟨k, c, a, bb, d, n⟩ := i
  dsimp only [metOf]
  by_cases h7 : k = 7
  · subst h7
    exact ins_k7 K b nc bc N A B xs nb sites words met c a bb d n w hK hA hM hN hst
  rw [if_neg h7]
  by_cases h1 : k = 1
  · subst h1; exact ins_of (ins_k1 K b nc bc A B xs nb sites words met c a bb d n w hK hA) hM
  by_cases h2 : k = 2
  · subst h2; exact ins_of (ins_k2 K b nc bc A B xs nb sites words met c a bb d n w hK hA) hM
  by_cases h3 : k = 3
  · subst h3; exact ins_of (ins_k3 K b nc bc A B xs nb sites words met c a bb d n w hK hA) hM
  by_cases h4 : k = 4
  · subst h4; exact ins_of (ins_k4 K b nc bc A B xs nb sites words met c a bb d n w hK hA) hM
  by_cases h5 : k = 5
  · subst h5; exact ins_of (ins_k5 K b nc bc A B xs nb sites words met c a bb d n w hK hA) hM
  by_cases h6 : k = 6
  · subst h6; exact ins_of (ins_k6 K b nc bc A B xs nb sites words met c a bb d n w hK hA) hM
  by_cases h8 : k = 8
  · subst h8; exact ins_of (ins_k8 K b nc bc A B xs nb sites words met c a bb d n w hK hA) hM
  by_cases h9 : k = 9
  · subst h9; exact ins_of (ins_k9 K b nc bc A B xs nb sites words met c a bb d n w hK hA) hM
  by_cases h10 : k = 10
  · subst h10; exact ins_of (ins_k10 K b nc bc A B xs nb sites words met c a bb d n w hK hA) hM
  by_cases h11 : k = 11
  · subst h11; exact ins_of (ins_k11 K b nc bc A B xs nb sites words met c a bb d n w hK hA) hM
  by_cases h12 : k = 12
  · subst h12; exact ins_of (ins_k12 K b nc bc A B xs nb sites words met c a bb d n w hK hA) hM
  by_cases h13 : k = 13
  · subst h13; exact ins_of (ins_k13 K b nc bc A B xs nb sites words met c a bb d n w hK hA) hM
  by_cases h14 : k = 14
  · subst h14; exact ins_of (ins_k14 K b nc bc A B xs nb sites words met c a bb d n w hK hA) hM
  refine ins_of (ins_kx K b nc bc A B xs nb sites words met k c a bb d n w (shp_other k fun j h1 h2 => ?_) hK) hM
  rintro rfl
  omega
theorem cells5 {w : World} {g t : Nat} {a b c d e : Value} (h : w.heap[g]? = some (.cells #[a, b, c, d, e] t (0, 0))) :
    w.cell? ⟨g, 0, none⟩ = some a ∧ w.cell? ⟨g, 1, none⟩ = some b ∧ w.cell? ⟨g, 2, none⟩ = some c ∧ w.cell? ⟨g, 3, none⟩ = some d ∧ w.cell? ⟨g, 4, none⟩ = some e :=
  ⟨(blk_cell h 0).trans rfl, (blk_cell h 1).trans rfl, (blk_cell h 2).trans rfl, (blk_cell h 3).trans rfl, (blk_cell h 4).trans rfl⟩
theorem to_calls (K nb bc P : Nat) (B : Option Addr) (r : Int) (w : World) (hP : w.cell? ⟨P, 0, none⟩ = some (.pointer (some ⟨K, 0, none⟩))) (hK : w.cell? ⟨K, 2, none⟩ = some (.slice B nb bc)) :
    Calls Try.prog 138 #[.int .i64 r, .pointer (some ⟨P, 0, none⟩)] w fun e w' => e = .returned (.bool (inN r nb)) ∧ w = w' := by
  unfold inN
  by_cases h0 : 0 ≤ r
  · go_enter Try.func138, Try.ntmps138
    go_wp2
    go_ret
    exact ⟨by simp [h0], rfl⟩
  · go_enter Try.func138, Try.ntmps138
    go_wp2
    go_ret
    exact ⟨by simp [h0]; omega, rfl⟩
def lastB (xs : List Bool) (nb : Nat) (b : S36) : Bool :=
  if b.f1 = 1 then inN b.f3 nb && b.f4 == 0 && b.f2 == 0
  else if b.f1 = 2 then inN b.f3 nb && inN b.f4 nb && isNum xs b.f2
  else if b.f1 = 3 then b.f3 == 0 && b.f4 == 0 && b.f2 == 0
  else false
set_option maxHeartbeats 1000000 in
theorem last_calls (K nc bc : Nat) (m : Value) (A B : Option Addr) (xs : List Bool) (nb : Nat) (sites words : Int) (bv : Value) (k reg yes no : Int) (is : List S46) (w : World)
    (hK : w.heap[K]? = some (.cells #[.slice A xs.length nc, .int .i64 sites, .slice B nb bc, .int .i64 words, m] 148 (0, 0)))
    (hA : Kd.C Kd.bool w A xs.length xs) :
    Calls Try.prog 113 #[.pointer (some ⟨K, 0, none⟩), .agg #[bv, .int .u8 k, .int .i64 reg, .int .i64 yes, .int .i64 no]] w fun e w' => e = .returned (.bool (lastB xs nb ⟨is, k, reg, yes, no⟩)) ∧ Below w.heap.size w w' := by
  have hz : lastB xs nb ⟨is, k, reg, yes, no⟩ = lastB xs nb ⟨is, k, reg, yes, no⟩ := rfl
  conv at hz => rhs; unfold lastB
  have HZ := Lib.hid hz
  clear hz
  generalize lastB xs nb ⟨is, k, reg, yes, no⟩ = z at HZ ⊢
  dsimp only at HZ
  have HK := Lib.hid (blk_alloc (blk_alloc hK (.cells #[.pointer (some ⟨K, 0, none⟩)] 145)) (.cells #[bv, .int .u8 k, .int .i64 reg, .int .i64 yes, .int .i64 no] 36))
  have HA := Lib.hid (Kd.C_alloc (Kd.C_alloc hA (.cells #[.pointer (some ⟨K, 0, none⟩)] 145)) (.cells #[bv, .int .u8 k, .int .i64 reg, .int .i64 yes, .int .i64 no] 36))
  have HB := Lib.hid (below_alloc (below_alloc (Below.refl w.heap.size w) (.cells #[.pointer (some ⟨K, 0, none⟩)] 145)) (.cells #[bv, .int .u8 k, .int .i64 reg, .int .i64 yes, .int .i64 no] 36))
  have HP := Lib.hid (blk_alloc (blk_new w (.cells #[.pointer (some ⟨K, 0, none⟩)] 145)) (.cells #[bv, .int .u8 k, .int .i64 reg, .int .i64 yes, .int .i64 no] 36))
  have hI := blk_new (w.alloc (.cells #[.pointer (some ⟨K, 0, none⟩)] 145)) (.cells #[bv, .int .u8 k, .int .i64 reg, .int .i64 yes, .int .i64 no] 36)
  rw [show (w.alloc (.cells #[.pointer (some ⟨K, 0, none⟩)] 145)).heap.size = w.heap.size + 1 from by simp] at hI
  have HI := Lib.hid hI
  clear hI
  clear hK hA
  have hu36 := Try.underlying36
  by_cases hk1 : k = 1
  · subst hk1
    go_enter Try.func113, Try.ntmps113
    go_wp2_with fail
    generalize (w.alloc (.cells #[.pointer (some ⟨K, 0, none⟩)] 145)).alloc (.cells #[bv, .int .u8 1, .int .i64 reg, .int .i64 yes, .int .i64 no] 36) = w2 at *
    obtain ⟨h0, h1, h2, h3, h4⟩ := cells5 HI.out
    have hp0 : w2.cell? ⟨w.heap.size, 0, none⟩ = some (.pointer (some ⟨K, 0, none⟩)) := (blk_cell HP.out 0).trans rfl
    go_wp2_with (first
      | (go_at_call 138; refine (to_calls K nb bc w.heap.size B _ _ hp0 ((blk_cell HK.out 2).trans rfl)).mono ?_; rintro e w' ⟨rfl, rfl⟩; generalize hq : inN _ nb = q; cases q)
      | (go_at_call 135; refine (num_calls _ _ _ _ _ _ ((blk_cell HK.out 0).trans rfl) HA.out).mono ?_; rintro e w' ⟨rfl, rfl⟩; generalize hq : isNum xs _ = q; cases q))
    all_goals
      go_ret
      refine ⟨?_, HB.out⟩
      rw [HZ.out]
      simp [*]
  by_cases hk2 : k = 2
  · subst hk2
    go_enter Try.func113, Try.ntmps113
    go_wp2_with fail
    generalize (w.alloc (.cells #[.pointer (some ⟨K, 0, none⟩)] 145)).alloc (.cells #[bv, .int .u8 2, .int .i64 reg, .int .i64 yes, .int .i64 no] 36) = w2 at *
    obtain ⟨h0, h1, h2, h3, h4⟩ := cells5 HI.out
    have hp0 : w2.cell? ⟨w.heap.size, 0, none⟩ = some (.pointer (some ⟨K, 0, none⟩)) := (blk_cell HP.out 0).trans rfl
    go_wp2_with (first
      | (go_at_call 138; refine (to_calls K nb bc w.heap.size B _ _ hp0 ((blk_cell HK.out 2).trans rfl)).mono ?_; rintro e w' ⟨rfl, rfl⟩; generalize hq : inN _ nb = q; cases q)
      | (go_at_call 135; refine (num_calls _ _ _ _ _ _ ((blk_cell HK.out 0).trans rfl) HA.out).mono ?_; rintro e w' ⟨rfl, rfl⟩; generalize hq : isNum xs _ = q; cases q))
    all_goals
      go_ret
      refine ⟨?_, HB.out⟩
      rw [HZ.out]
      simp [*]
  by_cases hk3 : k = 3
  · subst hk3
    go_enter Try.func113, Try.ntmps113
    have hI := HI.out
    obtain ⟨h0, h1, h2, h3, h4⟩ := cells5 HI.out
    clear hI
    go_wp2
    all_goals
      go_ret
      refine ⟨?_, below_alloc (below_alloc (Below.refl _ _) _) _⟩
      rw [HZ.out]
      simp [*]
  · have e1 : (k == 1) = false := by simpa using hk1
    have e2 : (k == 2) = false := by simpa using hk2
    have e3 : (k == 3) = false := by simpa using hk3
    go_enter Try.func113, Try.ntmps113
    have hI := HI.out
    obtain ⟨h0, h1, h2, h3, h4⟩ := cells5 HI.out
    clear hI
    go_wp2
    all_goals
      go_ret
      refine ⟨?_, below_alloc (below_alloc (Below.refl _ _) _) _⟩
      rw [HZ.out]
      simp [*]
end Go.Proofs.Ytjmeignhhheckaa.H
namespace Go.Proofs.Ytjmeignhhheckaa.Q
open Go.RowKit Go.Proofs.YtjmeignhhheckaaW.PrintWords Go.Proofs.YtjmeignhhheckaaW.PrintLast Go.Proofs.YtjmeignhhheckaaW.PrintMore
attribute [local go_sem] max2_int min2_int max_two min_two max_three min_three max_four min_four   -- for this text's walks alone
set_option linter.unusedVariables false
set_option linter.unusedSimpArgs false
def paths_Next.j0 : Nat → Bool → List (S46) → Int → Int → Int → Int → Option (List Int)
  | 0, _, _, _, _, _, _ => none
  | k + 1, x3, x112000, x112001, x112002, x112003, x112004 => if x3 = true then (some (([x112003, x112004] : List Int))) else (if x112001 = 2 then (some (([x112003] : List Int))) else (if x112001 = 1 then (some (([x112003] : List Int))) else (some ([] : List Int))))
def paths_Next.f (k : Nat) (l0_0 : List (S46)) (a0_1 : Int) (a0_2 : Int) (a0_3 : Int) (a0_4 : Int) : Option (List Int) := if a0_1 = 2 then (paths_Next.j0 k (a0_3 != a0_4) l0_0 a0_1 a0_2 a0_3 a0_4) else (paths_Next.j0 k false l0_0 a0_1 a0_2 a0_3 a0_4)
theorem paths_Next.mono_l : ∀ k, (∀ y0 y1 y2 y3 y4 y5, LeO (paths_Next.j0 k y0 y1 y2 y3 y4 y5) (paths_Next.j0 (k + 1) y0 y1 y2 y3 y4 y5))
  | 0 => fun _ _ _ _ _ _ r h => by simp [paths_Next.j0] at h
  | k + 1 => by
    have ih0 := paths_Next.mono_l k
    · intro y0 y1 y2 y3 y4 y5
      unfold paths_Next.j0
      repeat' first
      | (with_reducible exact ih0 _ _ _ _ _ _)
      | (with_reducible exact LeO.refl _)
      | (with_reducible exact LeO.none _)
      | (with_reducible refine LeO.ite ?_ ?_)
      | (with_reducible refine LeO.bind ?_ (fun _ => ?_))
      | exact ih0 _ _ _ _ _ _
      | exact LeO.none _
      | refine LeO.ite ?_ ?_
      | refine LeO.bind ?_ (fun _ => ?_)
theorem paths_Next.mono : ∀ a0 a1 a2 a3 a4 k, LeO (paths_Next.f k a0 a1 a2 a3 a4) (paths_Next.f (k + 1) a0 a1 a2 a3 a4) := by
  intro a0 a1 a2 a3 a4 k
  have ih0 := paths_Next.mono_l k
  unfold paths_Next.f
  repeat' first
      | (with_reducible exact ih0 _ _ _ _ _ _)
      | (with_reducible exact LeO.refl _)
      | (with_reducible exact LeO.none _)
      | (with_reducible refine LeO.ite ?_ ?_)
      | (with_reducible refine LeO.bind ?_ (fun _ => ?_))
      | exact ih0 _ _ _ _ _ _
      | exact LeO.none _
      | refine LeO.ite ?_ ?_
      | refine LeO.bind ?_ (fun _ => ?_)
set_option maxHeartbeats 8000000 in
set_option maxRecDepth 100000 in
theorem paths_Next.calls (k : Nat) (A0_0 : Option Addr) (c0_0 : Nat) (l0_0 : List (S46)) (a0_1 : Int) (a0_2 : Int) (a0_3 : Int) (a0_4 : Int) (r : List Int) (w : World) (hr0_0 : Kd.C k46 w A0_0 l0_0.length l0_0) (hc0_0 : l0_0.length ≤ c0_0) (h : paths_Next.f k l0_0 a0_1 a0_2 a0_3 a0_4 = some r) :
    Calls Try.prog 64 #[.agg #[.slice A0_0 l0_0.length c0_0, .int .u8 a0_1, .int .i64 a0_2, .int .i64 a0_3, .int .i64 a0_4]] w fun e w' => ∃ v0_ : Value, e = .returned (v0_) ∧ Kd.R (Kd.int .i64) 3 w' w.heap.size (fun _ => True) v0_ r ∧ Below w.heap.size w w' := by
  have hu36 := Try.underlying36
  have HR0_0 := Aside0.mk hr0_0
  have HC0_0 := Aside0.mk hc0_0
  clear hr0_0 hc0_0
  have HB := Aside0.mk (Below.refl w.heap.size w)
  have H : (if a0_1 = 2 then (paths_Next.j0 k (a0_3 != a0_4) l0_0 a0_1 a0_2 a0_3 a0_4) else (paths_Next.j0 k false l0_0 a0_1 a0_2 a0_3 a0_4)) = some r := h
  clear h
  have HC2 := Aside0.mk H
  clear H
  go_enter Try.func64, Try.ntmps64
  go_upto_region 1 with (first | ((with_reducible refine gate_dst (N := 1) rfl ?_); refine box_event ?hg (N := 1) ?hd (cs := #[.slice A0_0 l0_0.length c0_0, .int .u8 a0_1, .int .i64 a0_2, .int .i64 a0_3, .int .i64 a0_4]) (t := 36) ?hr ?_; (case hd => rfl); (case hg => rfl); (case hr => first | (go_simp; done) | (go_simp; rfl)); intro gb111 hg w3 hbox hb; have n0_ := Aside0.mk (below_step (by repeat (first | (with_reducible first | exact HB.out | apply below_alloc | apply pw_below_drewN | apply below_drew1) | exact HB.out)) hb); have n1_ := Aside0.mk (hbox); have n2_ := Aside0.mk ((by rw [hg]; exact (below_size (by repeat (first | (with_reducible first | exact HB.out | apply below_alloc | apply pw_below_drewN | apply below_drew1) | exact HB.out))) : w.heap.size ≤ gb111)); have n3_ := Aside0.mk ((by rw [hg]; exact (below_size (by repeat (first | (with_reducible first | exact HB.out | apply below_alloc | apply pw_below_drewN | apply below_drew1) | exact HB.out))) : w.heap.size ≤ gb111)); clear HB; have HB := n0_; have BK111 := n1_; have GW111 := n2_; have GE111 := n3_; clear n0_ n1_ n2_ n3_; clear hb hbox hg))
  (try simp only [Act.put, List.setIfInBounds_toArray, List.set_cons_zero, List.set_cons_succ])
  go_cut [3] (fun v3 wc => ∃ (kq : Nat) (x3_1 : Bool), v3 = .bool x3_1 ∧ Aside0 (paths_Next.j0 kq x3_1 l0_0 a0_1 a0_2 a0_3 a0_4 = some r) ∧ Aside0 (kq ≤ k) ∧ Aside0 (wc.heap[gb111]? = some (.cells #[(.slice A0_0 l0_0.length c0_0), .int .u8 a0_1, .int .i64 a0_2, .int .i64 a0_3, .int .i64 a0_4] 36 (0, 0))) ∧ Aside0 (Below w.heap.size w wc))
  case first =>
    have H := HC2.out
    clear HC2
    by_cases c4 : a0_1 = 2
    · rw [if_pos c4] at H
      have c4b0 : (a0_1 == 2) = true := beq_iff_eq.mpr c4
      have c4b1 : (a0_1 != 2) = false := bne_eq_false_iff_eq.mpr c4
      clear c4
      (first | rw [c4b0] | (simp only [i64_w, i32_w]; rw [c4b0]) | skip)
      have H' := Aside0.mk H
      clear H
      have hcz5_0 : w3.cell? ⟨gb111, 0, none⟩ = some (.slice A0_0 l0_0.length c0_0) := (blk_cell BK111.out 0).trans rfl
      have hcz5_1 : w3.cell? ⟨gb111, 1, none⟩ = some (.int .u8 a0_1) := (blk_cell BK111.out 1).trans rfl
      have hcz5_2 : w3.cell? ⟨gb111, 2, none⟩ = some (.int .i64 a0_2) := (blk_cell BK111.out 2).trans rfl
      have hcz5_3 : w3.cell? ⟨gb111, 3, none⟩ = some (.int .i64 a0_3) := (blk_cell BK111.out 3).trans rfl
      have hcz5_4 : w3.cell? ⟨gb111, 4, none⟩ = some (.int .i64 a0_4) := (blk_cell BK111.out 4).trans rfl
      have hfz5_0 := blk_frozen BK111.out 0
      have hfz5_1 := blk_frozen BK111.out 1
      have hfz5_2 := blk_frozen BK111.out 2
      have hfz5_3 := blk_frozen BK111.out 3
      have hfz5_4 := blk_frozen BK111.out 4
      go_wp2
      go_meet
      case rel => exact ⟨_, ((a0_3 != a0_4)), (by first | rfl | (simp; done) | (simp [*]; done)), H', ⟨by first | omega | exact Nat.le_refl _⟩, ⟨by (with_reducible repeat (first | refine blk_drewN ?_ _ | refine blk_drew ?_ | refine blk_alloc ?_ _)); exact BK111.out⟩, ⟨by repeat (first | (with_reducible first | exact HB.out | apply below_alloc | apply pw_below_drewN | apply below_drew1 | refine below_set ?_ GE111.out) | exact HB.out)⟩⟩
    · rw [if_neg c4] at H
      have c4b0 : (a0_1 == 2) = false := beq_eq_false_iff_ne.mpr c4
      have c4b1 : (a0_1 != 2) = true := bne_iff_ne.mpr c4
      (first | rw [c4b0] | (simp only [i64_w, i32_w]; rw [c4b0]) | skip)
      have H' := Aside0.mk H
      clear H
      have hcz6_0 : w3.cell? ⟨gb111, 0, none⟩ = some (.slice A0_0 l0_0.length c0_0) := (blk_cell BK111.out 0).trans rfl
      have hcz6_1 : w3.cell? ⟨gb111, 1, none⟩ = some (.int .u8 a0_1) := (blk_cell BK111.out 1).trans rfl
      have hcz6_2 : w3.cell? ⟨gb111, 2, none⟩ = some (.int .i64 a0_2) := (blk_cell BK111.out 2).trans rfl
      have hcz6_3 : w3.cell? ⟨gb111, 3, none⟩ = some (.int .i64 a0_3) := (blk_cell BK111.out 3).trans rfl
      have hcz6_4 : w3.cell? ⟨gb111, 4, none⟩ = some (.int .i64 a0_4) := (blk_cell BK111.out 4).trans rfl
      have hfz6_0 := blk_frozen BK111.out 0
      have hfz6_1 := blk_frozen BK111.out 1
      have hfz6_2 := blk_frozen BK111.out 2
      have hfz6_3 := blk_frozen BK111.out 3
      have hfz6_4 := blk_frozen BK111.out 4
      go_wp2
      go_meet
      case rel => exact ⟨_, (false), (by first | rfl | (simp; done) | (simp [*]; done)), H', ⟨by first | omega | exact Nat.le_refl _⟩, ⟨by (with_reducible repeat (first | refine blk_drewN ?_ _ | refine blk_drew ?_ | refine blk_alloc ?_ _)); exact BK111.out⟩, ⟨by repeat (first | (with_reducible first | exact HB.out | apply below_alloc | apply pw_below_drewN | apply below_drew1 | refine below_set ?_ GE111.out) | exact HB.out)⟩⟩
  case rest =>
    clear HC2
    try clear p2
    try clear c4
    try clear c4b0
    try clear c4b1
    try clear c6
    try clear hcz5_0
    try clear hcz5_1
    try clear hcz5_2
    try clear hcz5_3
    try clear hcz5_4
    try clear hcz6_0
    try clear hcz6_1
    try clear hcz6_2
    try clear hcz6_3
    try clear hcz6_4
    try clear hfz5_0
    try clear hfz5_1
    try clear hfz5_2
    try clear hfz5_3
    try clear hfz5_4
    try clear hfz6_0
    try clear hfz6_1
    try clear hfz6_2
    try clear hfz6_3
    try clear hfz6_4
    obtain ⟨kq, x3_1, rfl, HA, HJ1, BK111, HB⟩ := hcut
    cases kq with
    | zero => exact absurd HA.out (by simp [paths_Next.j0])
    | succ kj1 =>
      have H := HA.out
      clear HA
      simp only [paths_Next.j0] at H
      by_cases c7 : x3_1 = true
      · subst c7
        have H1 : (some (([a0_3, a0_4] : List Int))) = some r := by rw [if_pos rfl] at H; exact H
        clear H
        have H := H1
        clear H1
        obtain ⟨y112, hy112⟩ : ∃ y_ : List Int, y_ = (([a0_3, a0_4] : List Int)) := ⟨_, rfl⟩
        replace H : (some y112) = some r := by first | (rw [hy112]; with_reducible exact H) | (have H2_ := (Option.bind_some _ _).symm.trans H; rw [hy112]; with_reducible exact H2_) | (have H2_ := (Option.bind_some _ _).symm.trans H; with_reducible exact H2_) | with_reducible exact H | (rw [hy112]; exact H) | exact H
        have Ny112 := Aside0.mk hy112
        clear hy112
        obtain rfl := Option.some.inj H
        have hcz8_0 : wc.cell? ⟨gb111, 0, none⟩ = some (.slice A0_0 l0_0.length c0_0) := (blk_cell BK111.out 0).trans rfl
        have hcz8_1 : wc.cell? ⟨gb111, 1, none⟩ = some (.int .u8 a0_1) := (blk_cell BK111.out 1).trans rfl
        have hcz8_2 : wc.cell? ⟨gb111, 2, none⟩ = some (.int .i64 a0_2) := (blk_cell BK111.out 2).trans rfl
        have hcz8_3 : wc.cell? ⟨gb111, 3, none⟩ = some (.int .i64 a0_3) := (blk_cell BK111.out 3).trans rfl
        have hcz8_4 : wc.cell? ⟨gb111, 4, none⟩ = some (.int .i64 a0_4) := (blk_cell BK111.out 4).trans rfl
        have hfz8_0 := blk_frozen BK111.out 0
        have hfz8_1 := blk_frozen BK111.out 1
        have hfz8_2 := blk_frozen BK111.out 2
        have hfz8_3 := blk_frozen BK111.out 3
        have hfz8_4 := blk_frozen BK111.out 4
        go_wp2_with (first | ((with_reducible refine gate_dst (N := 18) rfl ?_); refine Kd.R_lit (Kd.int .i64) _ 3 ?hg (N := 18) ?hd (xs := ([a0_3, a0_4] : List Int)) (inner := [.int .i64 a0_3, .int .i64 a0_4]) (ok := fun _ => True) (okp := fun _ => True) ?hr ?hp (fun _ hk => hk) trivial (Below.refl _ _) (Nat.le_refl _) (by simp) ?_; (case hd => rfl); (case hg => rfl); (case hr => first | (go_simp; done) | (go_simp; rfl)); (case hp => exact (Reps.one (show Kd.M (Kd.int .i64) _ _ _ a0_3 [.int .i64 a0_3] from rfl) (Reps.one (show Kd.M (Kd.int .i64) _ _ _ a0_4 [.int .i64 a0_4] from rfl) (Reps.none _ _)))); intro v113 w9 ho10 hb hg_ hnew_; clear hg_ hnew_; (first | rw [← Ny112.out] at ho10 | (simp only [Int.reduceToNat] at ho10; rw [← Ny112.out] at ho10)); have n0_ := Aside0.mk (Kd.R_lower ho10 (below_size (by repeat (first | (with_reducible first | exact HB.out | apply below_alloc | apply pw_below_drewN | apply below_drew1 | refine below_set ?_ GE111.out) | exact HB.out)))); have n1_ := Aside0.mk (blk_below (g := gb111) (o := .cells #[.slice A0_0 l0_0.length c0_0, .int .u8 a0_1, .int .i64 a0_2, .int .i64 a0_3, .int .i64 a0_4] 36 (0, 0)) (by (with_reducible repeat (first | refine blk_drewN ?_ _ | refine blk_drew ?_ | refine blk_alloc ?_ _)); exact BK111.out) hb); have n2_ := Aside0.mk (below_step (by repeat (first | (with_reducible first | exact HB.out | apply below_alloc | apply pw_below_drewN | apply below_drew1 | refine below_set ?_ GE111.out) | exact HB.out)) hb); clear BK111; clear HB; have HO114 := n0_; have BK111 := n1_; have HB := n2_; clear n0_ n1_ n2_; clear hb ho10))
        go_ret
        exact ⟨_, by first | rfl | (simp [errW_none, errW_some] <;> rfl) | (simp [*, errW_none, errW_some] <;> rfl), by (with_reducible repeat (first | apply Kd.R_alloc | apply Kd.R_drewN | apply Kd.R_drew)); exact HO114.out, by repeat (first | (with_reducible first | exact HB.out | apply below_alloc | apply pw_below_drewN | apply below_drew1 | refine below_set ?_ GE111.out) | exact HB.out)⟩
      · replace c7 := Bool.eq_false_iff.mpr c7
        subst c7
        have H1 : (if a0_1 = 2 then (some (([a0_3] : List Int))) else (if a0_1 = 1 then (some (([a0_3] : List Int))) else (some ([] : List Int)))) = some r := by rw [if_neg (show ¬ (false = true) by decide)] at H; exact H
        clear H
        have H := H1
        clear H1
        by_cases c11 : a0_1 = 2
        · rw [if_pos c11] at H
          have c11b0 : (a0_1 == 2) = true := beq_iff_eq.mpr c11
          have c11b1 : (a0_1 != 2) = false := bne_eq_false_iff_eq.mpr c11
          clear c11
          obtain ⟨y115, hy115⟩ : ∃ y_ : List Int, y_ = (([a0_3] : List Int)) := ⟨_, rfl⟩
          replace H : (some y115) = some r := by first | (rw [hy115]; with_reducible exact H) | (have H2_ := (Option.bind_some _ _).symm.trans H; rw [hy115]; with_reducible exact H2_) | (have H2_ := (Option.bind_some _ _).symm.trans H; with_reducible exact H2_) | with_reducible exact H | (rw [hy115]; exact H) | exact H
          have Ny115 := Aside0.mk hy115
          clear hy115
          obtain rfl := Option.some.inj H
          have hcz12_0 : wc.cell? ⟨gb111, 0, none⟩ = some (.slice A0_0 l0_0.length c0_0) := (blk_cell BK111.out 0).trans rfl
          have hcz12_1 : wc.cell? ⟨gb111, 1, none⟩ = some (.int .u8 a0_1) := (blk_cell BK111.out 1).trans rfl
          have hcz12_2 : wc.cell? ⟨gb111, 2, none⟩ = some (.int .i64 a0_2) := (blk_cell BK111.out 2).trans rfl
          have hcz12_3 : wc.cell? ⟨gb111, 3, none⟩ = some (.int .i64 a0_3) := (blk_cell BK111.out 3).trans rfl
          have hcz12_4 : wc.cell? ⟨gb111, 4, none⟩ = some (.int .i64 a0_4) := (blk_cell BK111.out 4).trans rfl
          have hfz12_0 := blk_frozen BK111.out 0
          have hfz12_1 := blk_frozen BK111.out 1
          have hfz12_2 := blk_frozen BK111.out 2
          have hfz12_3 := blk_frozen BK111.out 3
          have hfz12_4 := blk_frozen BK111.out 4
          go_wp2_with (first | ((with_reducible refine gate_dst (N := 28) rfl ?_); refine Kd.R_lit (Kd.int .i64) _ 3 ?hg (N := 28) ?hd (xs := ([a0_3] : List Int)) (inner := [.int .i64 a0_3]) (ok := fun _ => True) (okp := fun _ => True) ?hr ?hp (fun _ hk => hk) trivial (Below.refl _ _) (Nat.le_refl _) (by simp) ?_; (case hd => rfl); (case hg => rfl); (case hr => first | (go_simp; done) | (go_simp; rfl)); (case hp => exact (Reps.one (show Kd.M (Kd.int .i64) _ _ _ a0_3 [.int .i64 a0_3] from rfl) (Reps.none _ _))); intro v116 w13 ho14 hb hg_ hnew_; clear hg_ hnew_; (first | rw [← Ny115.out] at ho14 | (simp only [Int.reduceToNat] at ho14; rw [← Ny115.out] at ho14)); have n0_ := Aside0.mk (Kd.R_lower ho14 (below_size (by repeat (first | (with_reducible first | exact HB.out | apply below_alloc | apply pw_below_drewN | apply below_drew1 | refine below_set ?_ GE111.out) | exact HB.out)))); have n1_ := Aside0.mk (blk_below (g := gb111) (o := .cells #[.slice A0_0 l0_0.length c0_0, .int .u8 a0_1, .int .i64 a0_2, .int .i64 a0_3, .int .i64 a0_4] 36 (0, 0)) (by (with_reducible repeat (first | refine blk_drewN ?_ _ | refine blk_drew ?_ | refine blk_alloc ?_ _)); exact BK111.out) hb); have n2_ := Aside0.mk (below_step (by repeat (first | (with_reducible first | exact HB.out | apply below_alloc | apply pw_below_drewN | apply below_drew1 | refine below_set ?_ GE111.out) | exact HB.out)) hb); clear BK111; clear HB; have HO117 := n0_; have BK111 := n1_; have HB := n2_; clear n0_ n1_ n2_; clear hb ho14))
          go_ret
          exact ⟨_, by first | rfl | (simp [errW_none, errW_some] <;> rfl) | (simp [*, errW_none, errW_some] <;> rfl), by (with_reducible repeat (first | apply Kd.R_alloc | apply Kd.R_drewN | apply Kd.R_drew)); exact HO117.out, by repeat (first | (with_reducible first | exact HB.out | apply below_alloc | apply pw_below_drewN | apply below_drew1 | refine below_set ?_ GE111.out) | exact HB.out)⟩
        · rw [if_neg c11] at H
          have c11b0 : (a0_1 == 2) = false := beq_eq_false_iff_ne.mpr c11
          have c11b1 : (a0_1 != 2) = true := bne_iff_ne.mpr c11
          by_cases c15 : a0_1 = 1
          · rw [if_pos c15] at H
            have c15b0 : (a0_1 == 1) = true := beq_iff_eq.mpr c15
            have c15b1 : (a0_1 != 1) = false := bne_eq_false_iff_eq.mpr c15
            clear c15
            obtain ⟨y118, hy118⟩ : ∃ y_ : List Int, y_ = (([a0_3] : List Int)) := ⟨_, rfl⟩
            replace H : (some y118) = some r := by first | (rw [hy118]; with_reducible exact H) | (have H2_ := (Option.bind_some _ _).symm.trans H; rw [hy118]; with_reducible exact H2_) | (have H2_ := (Option.bind_some _ _).symm.trans H; with_reducible exact H2_) | with_reducible exact H | (rw [hy118]; exact H) | exact H
            have Ny118 := Aside0.mk hy118
            clear hy118
            obtain rfl := Option.some.inj H
            have hcz16_0 : wc.cell? ⟨gb111, 0, none⟩ = some (.slice A0_0 l0_0.length c0_0) := (blk_cell BK111.out 0).trans rfl
            have hcz16_1 : wc.cell? ⟨gb111, 1, none⟩ = some (.int .u8 a0_1) := (blk_cell BK111.out 1).trans rfl
            have hcz16_2 : wc.cell? ⟨gb111, 2, none⟩ = some (.int .i64 a0_2) := (blk_cell BK111.out 2).trans rfl
            have hcz16_3 : wc.cell? ⟨gb111, 3, none⟩ = some (.int .i64 a0_3) := (blk_cell BK111.out 3).trans rfl
            have hcz16_4 : wc.cell? ⟨gb111, 4, none⟩ = some (.int .i64 a0_4) := (blk_cell BK111.out 4).trans rfl
            have hfz16_0 := blk_frozen BK111.out 0
            have hfz16_1 := blk_frozen BK111.out 1
            have hfz16_2 := blk_frozen BK111.out 2
            have hfz16_3 := blk_frozen BK111.out 3
            have hfz16_4 := blk_frozen BK111.out 4
            go_wp2_with (first | ((with_reducible refine gate_dst (N := 28) rfl ?_); refine Kd.R_lit (Kd.int .i64) _ 3 ?hg (N := 28) ?hd (xs := ([a0_3] : List Int)) (inner := [.int .i64 a0_3]) (ok := fun _ => True) (okp := fun _ => True) ?hr ?hp (fun _ hk => hk) trivial (Below.refl _ _) (Nat.le_refl _) (by simp) ?_; (case hd => rfl); (case hg => rfl); (case hr => first | (go_simp; done) | (go_simp; rfl)); (case hp => exact (Reps.one (show Kd.M (Kd.int .i64) _ _ _ a0_3 [.int .i64 a0_3] from rfl) (Reps.none _ _))); intro v119 w17 ho18 hb hg_ hnew_; clear hg_ hnew_; (first | rw [← Ny118.out] at ho18 | (simp only [Int.reduceToNat] at ho18; rw [← Ny118.out] at ho18)); have n0_ := Aside0.mk (Kd.R_lower ho18 (below_size (by repeat (first | (with_reducible first | exact HB.out | apply below_alloc | apply pw_below_drewN | apply below_drew1 | refine below_set ?_ GE111.out) | exact HB.out)))); have n1_ := Aside0.mk (blk_below (g := gb111) (o := .cells #[.slice A0_0 l0_0.length c0_0, .int .u8 a0_1, .int .i64 a0_2, .int .i64 a0_3, .int .i64 a0_4] 36 (0, 0)) (by (with_reducible repeat (first | refine blk_drewN ?_ _ | refine blk_drew ?_ | refine blk_alloc ?_ _)); exact BK111.out) hb); have n2_ := Aside0.mk (below_step (by repeat (first | (with_reducible first | exact HB.out | apply below_alloc | apply pw_below_drewN | apply below_drew1 | refine below_set ?_ GE111.out) | exact HB.out)) hb); clear BK111; clear HB; have HO120 := n0_; have BK111 := n1_; have HB := n2_; clear n0_ n1_ n2_; clear hb ho18))
            go_ret
            exact ⟨_, by first | rfl | (simp [errW_none, errW_some] <;> rfl) | (simp [*, errW_none, errW_some] <;> rfl), by (with_reducible repeat (first | apply Kd.R_alloc | apply Kd.R_drewN | apply Kd.R_drew)); exact HO120.out, by repeat (first | (with_reducible first | exact HB.out | apply below_alloc | apply pw_below_drewN | apply below_drew1 | refine below_set ?_ GE111.out) | exact HB.out)⟩
          · rw [if_neg c15] at H
            have c15b0 : (a0_1 == 1) = false := beq_eq_false_iff_ne.mpr c15
            have c15b1 : (a0_1 != 1) = true := bne_iff_ne.mpr c15
            obtain rfl := Option.some.inj H
            have hcz19_0 : wc.cell? ⟨gb111, 0, none⟩ = some (.slice A0_0 l0_0.length c0_0) := (blk_cell BK111.out 0).trans rfl
            have hcz19_1 : wc.cell? ⟨gb111, 1, none⟩ = some (.int .u8 a0_1) := (blk_cell BK111.out 1).trans rfl
            have hcz19_2 : wc.cell? ⟨gb111, 2, none⟩ = some (.int .i64 a0_2) := (blk_cell BK111.out 2).trans rfl
            have hcz19_3 : wc.cell? ⟨gb111, 3, none⟩ = some (.int .i64 a0_3) := (blk_cell BK111.out 3).trans rfl
            have hcz19_4 : wc.cell? ⟨gb111, 4, none⟩ = some (.int .i64 a0_4) := (blk_cell BK111.out 4).trans rfl
            have hfz19_0 := blk_frozen BK111.out 0
            have hfz19_1 := blk_frozen BK111.out 1
            have hfz19_2 := blk_frozen BK111.out 2
            have hfz19_3 := blk_frozen BK111.out 3
            have hfz19_4 := blk_frozen BK111.out 4
            go_wp2
            go_ret
            exact ⟨_, by first | rfl | (simp [errW_none, errW_some] <;> rfl) | (simp [*, errW_none, errW_some] <;> rfl), by first | exact Kd.R_nil _ _ _ _ _ | exact Kd.N_nil _ _ _ _ _ | exact Kd.V_nil _ _ _ _ _ | exact Kd.Q_nil _ _ _ _ _ | exact Kd.S_nil _ _ _ _ _, by repeat (first | (with_reducible first | exact HB.out | apply below_alloc | apply pw_below_drewN | apply below_drew1 | refine below_set ?_ GE111.out) | exact HB.out)⟩
end Go.Proofs.Ytjmeignhhheckaa.Q
namespace Go.Proofs.Ytjmeignhhheckaa.H
open Go.RowKit Go.Maps Go.Proofs.YtjmeignhhheckaaW.PrintWords Go.Proofs.YtjmeignhhheckaaW.PrintLast Go.Proofs.Ytjmeignhhheckaa.Q
set_option maxRecDepth 100000
/-- the blocks that a block leads to, each once -/
def nexts (b : S36) : List Int := if b.f1 = 2 ∧ b.f3 ≠ b.f4 then [b.f3, b.f4] else if b.f1 = 2 then [b.f3] else if b.f1 = 1 then [b.f3] else []
theorem nexts_f (b : S36) : paths_Next.f 1 b.f0 b.f1 b.f2 b.f3 b.f4 = some (nexts b) := by
  unfold paths_Next.f nexts
  by_cases h2 : b.f1 = 2
  · by_cases h3 : b.f3 = b.f4
    · simp [h2, h3, paths_Next.j0]
    · simp [h2, h3, paths_Next.j0]
  · by_cases h1 : b.f1 = 1
    · simp [h1, paths_Next.j0]
    · simp [h1, h2, paths_Next.j0]
theorem next_calls (A : Option Addr) (c : Nat) (b : S36) (w : World) (h0 : Kd.C k46 w A b.f0.length b.f0) (hc : b.f0.length ≤ c) :
    Calls Try.prog 64 #[.agg #[.slice A b.f0.length c, .int .u8 b.f1, .int .i64 b.f2, .int .i64 b.f3, .int .i64 b.f4]] w fun e w' => ∃ v, e = .returned v ∧ Kd.R (Kd.int .i64) 3 w' w.heap.size (fun _ => True) v (nexts b) ∧ Below w.heap.size w w' :=
  paths_Next.calls 1 A c b.f0 b.f1 b.f2 b.f3 b.f4 _ w h0 hc (nexts_f b)
/-- within an atomic block behind these instructions? -/
def blkEnd (is : List S46) (s : Bool) : Bool := is.foldl (fun s i => if i.f0 = 13 then true else if i.f0 = 14 then false else s) s
/-- Sides' loop; st: the stack, its top first -/
def sidesGo (bs : List S36) : Nat → List S171 → List Bool → List Bool → Option (List Bool × List Bool)
  | _, [], i, o => some (i, o)
  | 0, _ :: _, _, _ => none
  | k + 1, v :: st, i, o =>
    if (if v.f1 then rdOf false i v.f0 else rdOf false o v.f0) then sidesGo bs k st i o
    else sidesGo bs k (((nexts (rd_T36 bs v.f0)).map fun t => (⟨t, blkEnd (rd_T36 bs v.f0).f0 v.f1⟩ : S171)).reverse ++ st) (if v.f1 then i.set v.f0.toNat true else i) (if v.f1 then o else o.set v.f0.toNat true)
/-- bools in a block -/
def BB (w : World) (g : Nat) (xs : List Bool) : Prop := w.heap[g]? = some (.cells (xs.map Value.bool).toArray 4 (0, 0))
theorem BB.cell {w : World} {g : Nat} {xs : List Bool} (h : BB w g xs) (i : Int) (h0 : 0 ≤ i) (h1 : i < xs.length) : w.cell? ⟨g, i.toNat, none⟩ = some (.bool (rdOf false xs i)) := by
  have hi : i.toNat < xs.length := by omega
  rw [blk_cell h]
  simp [rdOf, hi]
theorem BB.set {w : World} {g : Nat} {xs : List Bool} (h : BB w g xs) (i : Nat) (b : Bool) : BB (w.setCell ⟨g, i, none⟩ (.bool b)) g (xs.set i b) := by
  refine blk_put h i _ ?_
  apply Array.ext'
  simp [Array.toList_setIfInBounds, List.map_set]
theorem rep_eq (n : Nat) : ((List.replicate n false).map Value.bool).toArray = Array.replicate n (.bool false) := by
  rw [List.map_replicate]; simp
theorem mk2 {W : World} {n : Nat} (hn : W.heap.size = n) (m : Nat) {w : World} (hB : Below w.heap.size w W) {g : Nat} {o : Obj} (hg : W.heap[g]? = some o) :
    BB ((W.alloc (.cells (Array.replicate m (.bool false)) 4)).alloc (.cells (Array.replicate m (.bool false)) 4)).drew n (List.replicate m false) ∧ BB ((W.alloc (.cells (Array.replicate m (.bool false)) 4)).alloc (.cells (Array.replicate m (.bool false)) 4)).drew (n + 1) (List.replicate m false) ∧
      Below w.heap.size w ((W.alloc (.cells (Array.replicate m (.bool false)) 4)).alloc (.cells (Array.replicate m (.bool false)) 4)).drew ∧ ((W.alloc (.cells (Array.replicate m (.bool false)) 4)).alloc (.cells (Array.replicate m (.bool false)) 4)).drew.heap[g]? = some o := by
  subst hn
  unfold BB
  rw [rep_eq]
  refine ⟨blk_drew (blk_alloc (blk_new W _) _), ?_, below_drew (below_alloc (below_alloc hB _) _), blk_drew (blk_alloc (blk_alloc hg _) _)⟩
  have := blk_new (W.alloc (.cells (Array.replicate m (.bool false)) 4)) (.cells (Array.replicate m (.bool false)) 4)
  rw [show (W.alloc (.cells (Array.replicate m (.bool false)) 4)).heap.size = W.heap.size + 1 from by simp] at this
  exact blk_drew this
def okT (bs : List S36) : Prop := ∀ b ∈ bs, ∀ t ∈ nexts b, 0 ≤ t ∧ t < bs.length
theorem rd_last (ys : List S171) (v : S171) : rd_T171 (ys ++ [v]) (ys.length : Int) = v := by
  simp [rd_T171]
theorem R_one {W : World} {base : Nat} (hb : base ≤ W.heap.size) (a : Int) (b : Bool) : Kd.R k171 171 (W.alloc (.cells #[.int .i64 a, .bool b] 171)) base (fun _ => True) (.slice (some ⟨W.heap.size, 0, none⟩) 1 1) [⟨a, b⟩] := by
  refine ⟨fun _ _ => trivial, ?_⟩
  have := OwnRow.lit (e := 171) (size := 2) (R := k171.M (W.alloc (.cells #[.int .i64 a, .bool b] 171)) base (fun k => True ∧ some k ≠ (Value.slice (some ⟨W.heap.size, 0, none⟩) 1 1).ownBlock)) (ps := [(⟨a, b⟩ : S171)]) W base (inner := [.int .i64 a, .bool b]) ?_ hb (by simp)
  · exact this
  · refine ⟨by simp, fun j p hj => ?_⟩
    cases j with
    | zero => simp at hj; subst hj; exact k171_mkM _ _ _ _
    | succ j => simp at hj
theorem blkEnd_snoc (is : List S46) (q : Nat) (h : q < is.length) (s : Bool) : blkEnd (is.take (q + 1)) s = (if (rd_T46 is q).f0 = 13 then true else if (rd_T46 is q).f0 = 14 then false else blkEnd (is.take q) s) := by
  unfold blkEnd
  rw [List.take_succ_eq_append_getElem h, List.foldl_append]
  simp [rd_T46, h]
/-- what stays while a visit goes on -/
structure SFr (w : World) (gi go gv : Nat) (i o : List Bool) (G : Array Value) (vb : Int) (s : Bool) (v4 : Value) (xs : List S171) (wr : World) : Prop where
  bi : BB wr gi i
  bo : BB wr go o
  bg : wr.heap[w.heap.size]? = some (.cells G 25 (0, 0))
  bv : wr.heap[gv]? = some (.cells #[.int .i64 vb, .bool s] 171 (0, 0))
  r : Kd.R k171 171 wr w.heap.size (fun k => k ≠ gv) v4 xs
  b : Below w.heap.size w wr
theorem SFr.below {w : World} {gi go gv : Nat} {i o : List Bool} {G : Array Value} {vb : Int} {s : Bool} {v4 : Value} {xs : List S171} {wr wr' : World} (h : SFr w gi go gv i o G vb s v4 xs wr) (hb : Below wr.heap.size wr wr') : SFr w gi go gv i o G vb s v4 xs wr' :=
  ⟨blk_below h.bi hb, blk_below h.bo hb, blk_below h.bg hb, blk_below h.bv hb, Kd.R_below h.r hb, below_step h.b hb⟩
theorem SFr.alloc {w : World} {gi go gv : Nat} {i o : List Bool} {G : Array Value} {vb : Int} {s : Bool} {v4 : Value} {xs : List S171} {wr : World} (h : SFr w gi go gv i o G vb s v4 xs wr) (ob : Obj) : SFr w gi go gv i o G vb s v4 xs (wr.alloc ob) :=
  h.below ((Below.refl _ wr).alloc (Nat.le_refl _) ob)
theorem SFr.setS {w : World} {gi go gv : Nat} {i o : List Bool} {G : Array Value} {vb : Int} {s : Bool} {v4 : Value} {xs : List S171} {wr : World} (h : SFr w gi go gv i o G vb s v4 xs wr) (hw : w.heap.size ≤ gv) (t : Bool) : SFr w gi go gv i o G vb t v4 xs (wr.setCell ⟨gv, 1, none⟩ (.bool t)) :=
  ⟨blk_far h.bi (blk_ne h.bi h.bv (by decide)) _, blk_far h.bo (blk_ne h.bo h.bv (by decide)) _, blk_far h.bg (blk_ne h.bg h.bv (by decide)) _, blk_put h.bv 1 _ rfl, Kd.R_far h.r (fun k hk => hk) _, below_set h.b hw⟩
theorem nexts_len (b : S36) : (nexts b).length ≤ 2 := by
  unfold nexts
  split
  · simp
  · split
    · simp
    · split <;> simp
theorem getD_mem {α : Type} {l : List α} {i : Nat} {d : α} (h : i < l.length) : l.getD i d ∈ l := by
  rw [List.getD_eq_getElem?_getD, List.getElem?_eq_getElem h]
  exact List.getElem_mem h
theorem R_grown_ty {α β : Type} {d : Kd α} {d2 : Kd β} {e t : Nat} {w w1 : World} {base base2 : Nat} {ok ok2 : Nat → Prop} {v u : Value} {xs : List α} {ys : List β} (h : d.R e w base ok v xs) (ho : d2.R t w base2 ok2 u ys) (hg : w.grownBy w1 u.ownBlock) (ht : ∀ q ∈ e :: d.E, q ≠ t) : d.R e w1 base ok v xs := by
  cases hu : u.ownBlock with
  | none => rw [hu] at hg; exact Kd.R_grown h hg (by simp)
  | some g =>
    obtain ⟨inner, how, _⟩ := ho.2
    obtain ⟨cells, hc⟩ := own_typed how g hu
    rw [hu] at hg
    exact Kd.R_mono (Kd.R_grown (Kd.R_types h hc ht) hg (fun k hk e => hk.2 (Option.some.inj e))) (fun k hk => hk.1)
theorem SFr.append {w : World} {gi go gv : Nat} {i o : List Bool} {G : Array Value} {vb : Int} {s : Bool} {v4 v1 : Value} {xs ys : List S171} {wr w1 : World} (h : SFr w gi go gv i o G vb s v4 xs wr) (hR : Kd.R k171 171 w1 w.heap.size (fun k => k ≠ gv) v1 ys) (hg : wr.grownBy w1 v4.ownBlock) (hb : Below w.heap.size w w1) : SFr w gi go gv i o G vb s v1 ys w1 :=
  ⟨blk_grown h.bi hg (Kd.R_ne h.r h.bi (by decide)), blk_grown h.bo hg (Kd.R_ne h.r h.bo (by decide)), blk_grown h.bg hg (Kd.R_ne h.r h.bg (by decide)), blk_grown h.bv hg (fun e => h.r.1 gv e.symm rfl), hR, hb⟩
set_option maxHeartbeats 4000000 in
theorem sides_calls (A0 : Option Addr) (c0 : Nat) (l0 : List Bool) (a1 : Int) (A2 : Option Addr) (c2 : Nat) (bs : List S36) (k : Nat) (r1 r2 : List Bool) (w : World)
    (h2 : Kd.C k36 w A2 bs.length bs) (hc2 : bs.length ≤ c2) (hne : 0 < bs.length) (hsz : bs.length ≤ 5000) (hk : k ≤ 100000) (hT : okT bs) (h : sidesGo bs k [⟨0, false⟩] (List.replicate bs.length false) (List.replicate bs.length false) = some (r1, r2)) :
    Calls Try.prog 89 #[.agg #[.slice A0 l0.length c0, .int .i64 a1, .slice A2 bs.length c2]] w fun e w' => ∃ gi go : Nat, e = .returned (.tuple #[.slice (some ⟨gi, 0, none⟩) bs.length bs.length, .slice (some ⟨go, 0, none⟩) bs.length bs.length]) ∧ w.heap.size ≤ gi ∧ w.heap.size ≤ go ∧ gi ≠ go ∧ BB w' gi r1 ∧ BB w' go r2 ∧ Below w.heap.size w w' := by
  have H := Lib.hid h
  have H2 := Lib.hid h2
  have HT := Lib.hid hT
  clear h h2 hT
  have hu25 := Try.underlying25
  have hu171 := Try.underlying171
  have hu46 := Try.underlying46
  have hu36 := Try.underlying36
  go_enter Try.func89, Try.ntmps89
  have hmk : ∀ W : World, (Instr.makeSlice 22 (.int .i64 bs.length) (.int .i64 bs.length)).run Try.prog W = .ok (.slice (some ⟨W.heap.size, 0, none⟩) bs.length bs.length) (W.alloc (.cells (Array.replicate bs.length (.bool false)) 4)) := fun W => by
    have := print_make_of (P := Try.prog) 22 4 (.bool false) 1 Try.underlying22 info4 rfl (by decide) bs.length (by omega) W
    rw [this]
    congr 3
    apply Array.ext'
    simp only [madeCells, Array.toList_map, Array.toList_range, Array.toList_replicate]
    refine List.ext_getElem (by simp) (fun i h1 h2 => ?_)
    simp [Nat.mod_one]
  have HMK := Lib.hid hmk
  clear hmk
  go_upto_region 2 with fail
  go_cut [2, 3] (fun v2 v3 wc => ∃ gi go : Nat, v2 = .slice (some ⟨gi, 0, none⟩) bs.length bs.length ∧ v3 = .slice (some ⟨go, 0, none⟩) bs.length bs.length ∧ w.heap.size < gi ∧ w.heap.size < go ∧ gi ≠ go ∧ BB wc gi (List.replicate bs.length false) ∧ BB wc go (List.replicate bs.length false) ∧ wc.heap[w.heap.size]? = some (.cells #[.slice A0 l0.length c0, .int .i64 a1, .slice A2 bs.length c2] 25 (0, 0)) ∧ Below w.heap.size w wc)
  case first J1 K1 hJ1 hK1 =>
    have HB := Lib.hid (below_alloc (Below.refl w.heap.size w) (.cells #[.slice A0 l0.length c0, .int .i64 a1, .slice A2 bs.length c2] 25))
    have HG := Lib.hid (blk_new w (.cells #[.slice A0 l0.length c0, .int .i64 a1, .slice A2 bs.length c2] 25))
    have hmk := HMK.out
    go_wp2
    go_region
    all_goals
      have hm := mk2 (W := (w.alloc (.cells #[.slice A0 l0.length c0, .int .i64 a1, .slice A2 bs.length c2] 25))) (n := w.heap.size + 1) (by simp) bs.length HB.out HG.out
      refine hK1 _ _ ?_
      go_meet
    case rel => exact ⟨_, _, rfl, rfl, by omega, by omega, by omega, hm.1, hm.2.1, hm.2.2.2, hm.2.2.1⟩
    case rel => exact ⟨_, _, rfl, rfl, by omega, by omega, by omega, hm.2.1, hm.1, hm.2.2.2, hm.2.2.1⟩
  case rest =>
    obtain ⟨gi, go, rfl, rfl, hgi, hgo, hne2, hbi, hbo, hG, hB⟩ := hcut
    clear HMK
    have HI := Lib.hid hbi
    have HO := Lib.hid hbo
    have HG := Lib.hid hG
    have HB := Lib.hid hB
    have HNE := Lib.hid hne2
    clear hbi hbo hG hB hne2
    have HR := Lib.hid (R_one (W := wc) (base := w.heap.size) HB.out.size 0 false)
    have HI := Lib.hid (blk_alloc HI.out (.cells #[.int .i64 0, .bool false] 171))
    have HO := Lib.hid (blk_alloc HO.out (.cells #[.int .i64 0, .bool false] 171))
    have HG := Lib.hid (blk_alloc HG.out (.cells #[.int .i64 0, .bool false] 171))
    have HB := Lib.hid (below_alloc HB.out (.cells #[.int .i64 0, .bool false] 171))
    go_wp2
    go_loopg [4] k (fun kq v4 wr => ∃ (st : List S171) (i o : List Bool), Kd.R k171 171 wr w.heap.size (fun _ => True) v4 st.reverse ∧ BB wr gi i ∧ BB wr go o ∧ wr.heap[w.heap.size]? = some (.cells #[.slice A0 l0.length c0, .int .i64 a1, .slice A2 bs.length c2] 25 (0, 0)) ∧ Below w.heap.size w wr ∧ i.length = bs.length ∧ o.length = bs.length ∧ (∀ v ∈ st, 0 ≤ v.f0 ∧ v.f0 < bs.length) ∧ sidesGo bs kq st i o = some (r1, r2) ∧ st.length + 2 * kq ≤ 2 * k + 1 ∧ kq ≤ k)
    case atStart =>
      exact ⟨[⟨0, false⟩], _, _, HR.out, HI.out, HO.out, HG.out, HB.out, by simp, by simp, by simp; omega, H.out, by simp; omega, Nat.le_refl _⟩
    case round =>
      obtain ⟨st, i, o, hR, hI, hO, hG, hB, hil, hol, hst, hgo, hbound, hkq⟩ := hrel
      clear HR HI HO HG HB H
      obtain ⟨wq, rfl⟩ : ∃ wq : World, wq = wr := ⟨_, rfl⟩
      have HR := Lib.hid hR
      have HI := Lib.hid hI
      have HO := Lib.hid hO
      have HG := Lib.hid hG
      have HB := Lib.hid hB
      have HIL := Lib.hid hil
      have HOL := Lib.hid hol
      have HST := Lib.hid hst
      have H := Lib.hid hgo
      clear hR hI hO hG hB hil hol hst hgo
      cases st with
      | nil =>
        obtain ⟨A, c, hv, hc, hC⟩ := Kd.R_reads HR.out
        simp only [List.reverse_nil, List.length_nil] at hv
        subst hv
        clear hC HR
        go_wp2
        go_ret2
        have h := H.out
        simp only [sidesGo, Option.some.injEq, Prod.mk.injEq] at h
        exact ⟨gi, go, rfl, by omega, by omega, HNE.out, h.1 ▸ HI.out, h.2 ▸ HO.out, HB.out⟩
      | cons v st =>
        rw [List.reverse_cons] at HR
        obtain ⟨A, c, hv, hc, hC⟩ := Kd.R_reads HR.out
        have hlen : (st.reverse ++ [v]).length = st.length + 1 := by simp
        rw [hlen] at hv hc hC
        subst hv
        have hat := at_T171 hC (st.length : Int) (by omega) (by omega)
        have hrd : rd_T171 (st.reverse ++ [v]) (st.length : Int) = v := by
          have := rd_last st.reverse v
          rwa [List.length_reverse] at this
        rw [hrd] at hat
        obtain ⟨ad, rfl, e0, e1⟩ := hat
        obtain ⟨vb, vi⟩ := v
        have HR2 := Kd.R_take (m := st.length) HR.out (by simp)
        rw [List.take_left' (by simp)] at HR2
        have HR2 := Lib.hid (Kd.R_mono (Kd.R_below (Kd.R_bound HR2) ((Below.refl _ wq).alloc (Nat.le_refl _) (.cells #[.int .i64 vb, .bool vi] 171))) (ok' := fun k => k ≠ wq.heap.size) (fun k hk => by omega))
        have HI2 := Lib.hid (blk_alloc HI.out (.cells #[.int .i64 vb, .bool vi] 171))
        have HO2 := Lib.hid (blk_alloc HO.out (.cells #[.int .i64 vb, .bool vi] 171))
        have HG2 := Lib.hid (blk_alloc HG.out (.cells #[.int .i64 vb, .bool vi] 171))
        have HB2 := Lib.hid (below_alloc HB.out (.cells #[.int .i64 vb, .bool vi] 171))
        have HV2 := Lib.hid (blk_new wq (.cells #[.int .i64 vb, .bool vi] 171))
        have HGV := Lib.hid HB.out.size
        clear hC hc hlen hrd HR HI HO HG HB
        dsimp only at e0 e1
        simp only [Int.toNat_natCast] at e0 e1
        have hsb : st.length ≤ 400000 := by simp only [List.length_cons] at hbound; omega
        have hsc : st.length ≤ c := by have := OwnRow.slice_ HR2.out.2; obtain ⟨A', c', e, hle⟩ := this; injection e with _ e2 e3; rw [e3]; simpa using hle
        go_upto_if 37 with fail
        clear e0 e1
        generalize wq.alloc (.cells #[.int .i64 vb, .bool vi] 171) = w1 at *
        generalize wq.heap.size = gv at *
        go_cut [6] (fun v6 wx => v6 = .slice (some ⟨if vi then gi else go, 0, none⟩) bs.length bs.length ∧ wx = w1)
        case first =>
          cases vi
          · go_wp2
            go_meet
            case rel => exact ⟨rfl, rfl⟩
          · go_wp2
            go_meet
            case rel => exact ⟨rfl, rfl⟩
        case rest =>
          obtain ⟨rfl, rfl⟩ := hcut
          have hvb := HST.out ⟨vb, vi⟩ (by simp)
          dsimp only at hvb
          have HS := Lib.hid (show BB wc (if vi then gi else go) (if vi then i else o) from by
            cases vi
            · exact HO2.out
            · exact HI2.out)
          have HSL := Lib.hid (show (if vi then i else o).length = bs.length from by
            cases vi
            · exact HOL.out
            · exact HIL.out)
          have hu := HS.out.cell vb hvb.1 (by rw [HSL.out]; exact hvb.2)
          have hfz := blk_frozen HS.out vb.toNat
          have hv0 : wc.cell? ⟨gv, 0, none⟩ = some (.int .i64 vb) := (blk_cell HV2.out 0).trans rfl
          have hv1 : wc.cell? ⟨gv, 1, none⟩ = some (.bool vi) := (blk_cell HV2.out 1).trans rfl
          have HGS := Lib.hid (show w.heap.size < (if vi then gi else go) from by cases vi <;> simp [hgi, hgo])
          have HGO := Lib.hid (show ∀ u, BB (wc.setCell ⟨if vi then gi else go, vb.toNat, none⟩ (.bool u)) gi (if vi then i.set vb.toNat u else i) ∧ BB (wc.setCell ⟨if vi then gi else go, vb.toNat, none⟩ (.bool u)) go (if vi then o else o.set vb.toNat u) from fun u => by
            cases vi
            · exact ⟨blk_far HI2.out HNE.out _, BB.set HO2.out _ _⟩
            · exact ⟨BB.set HI2.out _ _, blk_far HO2.out (Ne.symm HNE.out) _⟩)
          cases gk with
          | zero => have := H.out; simp [sidesGo] at this
          | succ g =>
            have hdef := H.out
            simp only [sidesGo] at hdef
            rw [show (if vi = true then rdOf false i vb else rdOf false o vb) = rdOf false (if vi then i else o) vb from by cases vi <;> rfl] at hdef
            generalize hgs : (if vi then gi else go) = gs at *
            cases hq : rdOf false (if vi then i else o) vb with
            | true =>
              rw [hq] at hu hdef
              simp only [if_true] at hdef
              have HD := Lib.hid hdef
              clear hdef
              go_wp2
              go_roundg g
              case measure => omega
              case rel =>
                refine ⟨st, i, o, Kd.R_mono HR2.out (fun _ _ => trivial), HI2.out, HO2.out, HG2.out, HB2.out, HIL.out, HOL.out, fun v hv => HST.out v (by simp [hv]), HD.out, ?_, by omega⟩
                simp only [List.length_cons] at hbound
                omega
            | false =>
              rw [hq] at hu hdef
              simp only [Bool.false_eq_true, if_false] at hdef
              have HD := Lib.hid hdef
              clear hdef
              go_upto_region 11 with fail
              have HF := Lib.hid (show SFr w gi go gv (if vi then i.set vb.toNat true else i) (if vi then o else o.set vb.toNat true) _ vb vi _ st.reverse (wc.setCell ⟨gs, vb.toNat, none⟩ (.bool true)) from
                ⟨(HGO.out true).1, (HGO.out true).2, blk_far HG2.out (p := ⟨gs, vb.toNat, none⟩) (by dsimp only; have := HGS.out; omega) (.bool true), blk_far HV2.out (p := ⟨gs, vb.toNat, none⟩) (Ne.symm (blk_ne HS.out HV2.out (by decide))) (.bool true), Kd.R_set HR2.out HS.out (by decide) vb.toNat (.bool true), below_set HB2.out (Nat.le_of_lt HGS.out) (j := vb.toNat) (v := .bool true)⟩)
              clear HI2 HO2 HG2 HV2 HR2 HB2 HGO HS hu hv0 hv1 hfz
              generalize wc.setCell ⟨gs, vb.toNat, none⟩ (.bool true) = w3 at *
              have hv0 : w3.cell? ⟨gv, 0, none⟩ = some (.int .i64 vb) := (blk_cell HF.out.bv 0).trans rfl
              have hg2 : w3.cell? ⟨w.heap.size, 2, none⟩ = some (.slice A2 bs.length c2) := (blk_cell HF.out.bg 2).trans rfl
              obtain ⟨ad2, A3, c3, hA, b0, b1, b2, b3, b4, hc3, hC3⟩ := at_T36 H2.out vb hvb.1 hvb.2
              subst hA
              have HC3 := Lib.hid hC3
              have HBL := Lib.hid (And.intro b0 (And.intro b1 (And.intro b2 (And.intro b3 b4))))
              have b0 := pw_cell_below HF.out.b b0
              clear hC3 b1 b2 b3 b4
              go_wp2
              clear b0 hv0 hg2
              have HTB := Lib.hid (show ∀ t ∈ nexts (rd_T36 bs vb), 0 ≤ t ∧ t < bs.length from HT.out _ (getD_mem (by omega)))
              generalize rd_T36 bs vb = bk at *
              have HLC := Lib.hid hc3
              have hcm := HC3.out.2.1
              clear hc3
              go_loopw [56] (fun j wr => ∃ q : Nat, q ≤ bk.f0.length ∧ j = .int .i64 q ∧ SFr w gi go gv (if vi then i.set vb.toNat true else i) (if vi then o else o.set vb.toNat true) #[.slice A0 l0.length c0, .int .i64 a1, .slice (some ad2) bs.length c2] vb (blkEnd (bk.f0.take q) vi) (.slice (some ad) st.length c) st.reverse wr) (fun j _ => bk.f0.length - (intOf j).toNat)
              case atStart => exact ⟨0, Nat.zero_le _, rfl, HF.out⟩
              case round =>
                obtain ⟨q, hql, rfl, hF⟩ := hrel
                clear HF
                have HF := Lib.hid hF
                clear hF
                by_cases hlt : q < bk.f0.length
                · obtain ⟨ad3, hA3, d0, d1, d2, d3, d4, d5⟩ := at_T46 (Kd.C_below HC3.out HF.out.b) (q : Int) (by omega) (by omega)
                  subst hA3
                  have HSN := Lib.hid (blkEnd_snoc bk.f0 q hlt vi)
                  simp only [Int.toNat_natCast] at d0 d1 d2 d3 d4 d5
                  have hfv := blk_frozen (HF.out.alloc (.cells #[.int .u8 (rd_T46 bk.f0 q).f0, .int .u8 (rd_T46 bk.f0 q).f1, .int .i64 (rd_T46 bk.f0 q).f2, .int .i64 (rd_T46 bk.f0 q).f3, .int .i64 (rd_T46 bk.f0 q).f4, .int .i64 (rd_T46 bk.f0 q).f5] 46)).bv 1
                  have hcv : (wr.alloc (.cells #[.int .u8 (rd_T46 bk.f0 q).f0, .int .u8 (rd_T46 bk.f0 q).f1, .int .i64 (rd_T46 bk.f0 q).f2, .int .i64 (rd_T46 bk.f0 q).f3, .int .i64 (rd_T46 bk.f0 q).f4, .int .i64 (rd_T46 bk.f0 q).f5] 46)).cell? ⟨gv, 1, none⟩ = some (.bool (blkEnd (bk.f0.take q) vi)) := (blk_cell (HF.out.alloc _).bv 1).trans rfl
                  by_cases h13 : (rd_T46 bk.f0 q).f0 = 13
                  · have e13 : ((rd_T46 bk.f0 q).f0 == 13) = true := by simpa using h13
                    have H13 := Lib.hid h13
                    clear h13
                    go_wp2
                    go_roundw
                    case rel =>
                      refine ⟨q + 1, by omega, by go_num, ?_⟩
                      rw [HSN.out, if_pos H13.out]
                      exact (HF.out.alloc _).setS HGV.out true
                    case measure => simp [intOf]; omega
                  · have e13 : ((rd_T46 bk.f0 q).f0 == 13) = false := by simpa using h13
                    have H13 := Lib.hid h13
                    clear h13
                    by_cases h14 : (rd_T46 bk.f0 q).f0 = 14
                    · have e14 : ((rd_T46 bk.f0 q).f0 == 14) = true := by simpa using h14
                      have H14 := Lib.hid h14
                      clear h14
                      go_wp2
                      go_roundw
                      case rel =>
                        refine ⟨q + 1, by omega, by go_num, ?_⟩
                        rw [HSN.out, if_neg H13.out, if_pos H14.out]
                        exact (HF.out.alloc _).setS HGV.out false
                      case measure => simp [intOf]; omega
                    · have e14 : ((rd_T46 bk.f0 q).f0 == 14) = false := by simpa using h14
                      have H14 := Lib.hid h14
                      clear h14
                      go_wp2
                      go_roundw
                      case rel =>
                        refine ⟨q + 1, by omega, by go_num, ?_⟩
                        rw [HSN.out, if_neg H13.out, if_neg H14.out]
                        exact HF.out.alloc _
                      case measure => simp [intOf]; omega
                · have hqe : q = bk.f0.length := by omega
                  subst hqe
                  rw [List.take_length] at HF
                  have b0 := pw_cell_below HF.out.b HBL.out.1
                  have b1 := pw_cell_below HF.out.b HBL.out.2.1
                  have b2 := pw_cell_below HF.out.b HBL.out.2.2.1
                  have b3 := pw_cell_below HF.out.b HBL.out.2.2.2.1
                  have b4 := pw_cell_below HF.out.b HBL.out.2.2.2.2
                  have hv0 : wr.cell? ⟨gv, 0, none⟩ = some (.int .i64 vb) := (blk_cell HF.out.bv 0).trans rfl
                  have hg2 : wr.cell? ⟨w.heap.size, 2, none⟩ = some (.slice (some ad2) bs.length c2) := (blk_cell HF.out.bg 2).trans rfl
                  go_wp2_with (go_at_call 64; go_loud (refine (next_calls A3 c3 bk _ (Kd.C_below HC3.out HF.out.b) HLC.out).mono ?_; rintro e w4 ⟨v, rfl, hR4, hb4⟩; have HN := Lib.hid hR4; have HF4 := Lib.hid (HF.out.below hb4); clear b0 b1 b2 b3 b4 hv0 hg2; have HSZ := Lib.hid hb4.size; clear hb4; obtain ⟨A5, c5, hv5, hc5, hC5⟩ := Kd.R_reads hR4; clear hC5 hR4; subst hv5))
                  go_loopw [4, 77] (fun v4 j wr => ∃ q : Nat, q ≤ (nexts bk).length ∧ j = .int .i64 q ∧ SFr w gi go gv (if vi then i.set vb.toNat true else i) (if vi then o else o.set vb.toNat true) #[.slice A0 l0.length c0, .int .i64 a1, .slice (some ad2) bs.length c2] vb (blkEnd bk.f0 vi) v4 (st.reverse ++ ((nexts bk).take q).map fun t => ⟨t, blkEnd bk.f0 vi⟩) wr ∧ Kd.R (Kd.int .i64) 3 wr w.heap.size (fun _ => True) (.slice A5 (nexts bk).length c5) (nexts bk)) (fun _ j _ => (nexts bk).length - (intOf j).toNat)
                  case atStart => exact ⟨0, Nat.zero_le _, rfl, by simpa using HF4.out, Kd.R_lower HN.out HF.out.b.size⟩
                  case round =>
                    obtain ⟨q, hql, rfl, hF, hR⟩ := hrel
                    clear HF4 HN HF
                    have HF := Lib.hid hF
                    have HN := Lib.hid hR
                    have hn2 := nexts_len bk
                    clear hF hR
                    by_cases hlt : q < (nexts bk).length
                    · obtain ⟨A6, c6, hv6, hc6, hC6⟩ := Kd.R_reads HN.out
                      have hA6 : A6 = A5 := by injection hv6 with e; exact e.symm
                      subst hA6
                      obtain ⟨ad6, hA6, f0⟩ := Kd.at_int hC6 (q : Int) (by omega) (by omega)
                      subst hA6
                      simp only [Int.toNat_natCast] at f0
                      clear hC6 hv6 hc6
                      have hv1 : wr.cell? ⟨gv, 1, none⟩ = some (.bool (blkEnd bk.f0 vi)) := (blk_cell HF.out.bv 1).trans rfl
                      have HT1 := Lib.hid (show (nexts bk).take (q + 1) = (nexts bk).take q ++ [rd (nexts bk) q] from by
                        rw [List.take_succ_eq_append_getElem hlt]; simp [rd, hlt])
                      go_wp2_with ((with_reducible refine gate_builtin (b := .append) (xs := #[.tmp 81, .tmp 86]) rfl ?_); at_builtin; go_loud (refine Kd.R_append k171 (w0 := w) w.heap.size rfl (.tmp 81) (.tmp 86) 172 171 (.agg #[(.int .i64 0), (.bool false)]) 16 rfl Try.underlying172 info171 rfl (by decide) (by decide) u4 (st.reverse ++ ((nexts bk).take q).map fun t => (⟨t, blkEnd bk.f0 vi⟩ : S171)) (⟨rd (nexts bk) q, blkEnd bk.f0 vi⟩ : S171) [.int .i64 (rd (nexts bk) q), .bool (blkEnd bk.f0 vi)] (fun k_ => k_ ≠ gv) (fun _ => False) rfl rfl ?aP (fun _ hk => hk.elim) ?aF ?aO ?aB ?aS ?aL ?_; (case aP => exact k171_mkM _ _ _ (⟨rd (nexts bk) q, blkEnd bk.f0 vi⟩ : S171)); (case aB => exact HF.out.b); (case aF => exact (fun k_ hk e => by have := blk_lt HF.out.bv; omega)); (case aO => exact HF.out.r); (case aS => exact HF.out.b.size); (case aL => (simp only [List.length_append, List.length_reverse, List.length_map, List.length_take]; omega)); intro v1 w1 hR1 hb1 hg1 hat1; have HF1 := Lib.hid (HF.out.append hR1 hg1 hb1); have HN1 := Lib.hid (R_grown_ty HN.out HF.out.r hg1 (by decide)); clear hR1 hb1 hg1 hat1))
                      go_roundw
                      case rel =>
                        refine ⟨q + 1, by omega, by go_num, ?_, HN1.out⟩
                        rw [HT1.out, List.map_append, ← List.append_assoc]
                        exact HF1.out
                      case measure => simp [intOf]; omega
                    · have hqe : q = (nexts bk).length := by omega
                      subst hqe
                      rw [List.take_length] at HF
                      go_wp2
                      go_roundg g
                      case measure => omega
                      case rel =>
                        refine ⟨_, _, _, ?_, HF.out.bi, HF.out.bo, HF.out.bg, HF.out.b, ?_, ?_, ?_, HD.out, ?_, by omega⟩
                        · rw [List.reverse_append, List.reverse_reverse]
                          exact Kd.R_mono HF.out.r (fun _ _ => trivial)
                        · cases vi <;> simp [HIL.out]
                        · cases vi <;> simp [HOL.out]
                        · intro v hv
                          rcases List.mem_append.1 hv with hv | hv
                          · rw [List.mem_reverse, List.mem_map] at hv
                            obtain ⟨t, ht, rfl⟩ := hv
                            exact HTB.out t ht
                          · exact HST.out v (by simp [hv])
                        · simp only [List.length_append, List.length_reverse, List.length_map, List.length_cons] at hbound ⊢
                          omega
end Go.Proofs.Ytjmeignhhheckaa.H
namespace Go.Proofs.Ytjmeignhhheckaa.H
open Go.RowKit Go.Maps Go.Proofs.YtjmeignhhheckaaW.PrintWords Go.Proofs.YtjmeignhhheckaaW.PrintLast Go.Proofs.Ytjmeignhhheckaa.Q
set_option maxRecDepth 100000
/-- the first instruction that may not be, or the sites met -/
def insScan (xs : List Bool) (sites words : Int) : List S46 → Nat → List Int → Sum Nat (List Int)
  | [], _, met => .inr met
  | i :: r, k, met => if insB xs sites words met i then insScan xs sites words r (k + 1) (metOf i met) else .inl k
def blkScan (xs : List Bool) (sites words : Int) (nb : Nat) : List S36 → Nat → List Int → Option (Nat × Nat)
  | [], _, _ => none
  | b :: r, n, met =>
    match insScan xs sites words b.f0 0 met with
    | .inl k => some (n, k)
    | .inr met' => if lastB xs nb b then blkScan xs sites words nb r (n + 1) met' else some (n, b.f0.length)
def insTotal (bs : List S36) : Nat := (bs.map fun b => b.f0.length).sum
def bothScan (i o : List Bool) : Nat → Nat → Option Nat
  | 0, _ => none
  | m + 1, n => if rdOf false i n && rdOf false o n then some n else bothScan i o m (n + 1)
def sideStep (i : S46) (s : Bool) : Bool × Bool :=
  if i.f0 = 13 then (s, true) else if i.f0 = 14 then (!s, false) else if i.f0 = 7 ∨ i.f0 = 8 ∨ i.f0 = 9 ∨ i.f0 = 10 ∨ i.f0 = 11 then (!s, s) else (false, s)
def sideIns : List S46 → Nat → Bool → Sum Nat Bool
  | [], _, s => .inr s
  | i :: r, k, s => if (sideStep i s).1 then .inl k else sideIns r (k + 1) (sideStep i s).2
def sideScan (i o : List Bool) : List S36 → Nat → Option (Nat × Nat)
  | [], _ => none
  | b :: r, n =>
    if !(rdOf false i n) && !(rdOf false o n) then sideScan i o r (n + 1)
    else match sideIns b.f0 0 (rdOf false i n) with
      | .inl k => some (n, k)
      | .inr s => if s && b.f1 == 3 then some (n, b.f0.length) else sideScan i o r (n + 1)
theorem drop_at {α : Type} (l : List α) (n : Nat) (d : α) (h : n < l.length) : l.drop n = l.getD n d :: l.drop (n + 1) := by
  rw [List.drop_eq_getElem_cons h, List.getD_eq_getElem?_getD, List.getElem?_eq_getElem h]; rfl
theorem insTotal_drop (bs : List S36) (n : Nat) (h : n < bs.length) : insTotal (bs.drop n) = (rd_T36 bs n).f0.length + insTotal (bs.drop (n + 1)) := by
  rw [drop_at bs n z36 h]
  simp [insTotal, rd_T36]
/-- what stays while fault looks -/
structure FFr (w : World) (b R : Nat) (wr : World) : Prop where
  g : w.grownBy wr (some b)
  r : wr.heap[R]? = some (.cells #[.int .i64 0, .int .i64 0] 41 (0, 0))
theorem FFr.step {w : World} {b R : Nat} {wr wr' : World} (h : FFr w b R wr) (hR : some R ≠ some b) (hg : wr.grownBy wr' (some b)) : FFr w b R wr' := ⟨h.g.trans hg, blk_grown h.r hg hR⟩
theorem FFr.below {w : World} {b R : Nat} {wr wr' : World} (h : FFr w b R wr) (hb : Below wr.heap.size wr wr') : FFr w b R wr' := ⟨h.g.trans (grown_of_below hb _), blk_below h.r hb⟩
theorem FFr.alloc {w : World} {b R : Nat} {wr : World} (h : FFr w b R wr) (o : Obj) : FFr w b R (wr.alloc o) := h.below ((Below.refl _ wr).alloc (Nat.le_refl _) o)
theorem grown_set {w wr : World} {row : Option Nat} (h : w.grownBy wr row) {p : Addr} (hp : w.heap.size ≤ p.block) (u : Value) : w.grownBy (wr.setCell p u) row :=
  ⟨h.os, h.tape, h.output, by simpa using h.size, fun k hk hr => (Below.heap_setCell wr p u k (by omega)).trans (h.block k hk hr)⟩
theorem below_of_grown {w0 w wr : World} {b : Nat} (h0 : Below w0.heap.size w0 w) (hb : w0.heap.size ≤ b) (h : w.grownBy wr (some b)) : Below w0.heap.size w0 wr := h0.grown h h0.size (fun k hk => by cases hk; exact hb)
def unset (l : List Bool) : Nat := l.countP (fun b => !b)
theorem unset_set (l : List Bool) (j : Int) (h0 : 0 ≤ j) (h1 : j < l.length) (h : rdOf false l j = false) : unset (l.set j.toNat true) + 1 = unset l := by
  obtain ⟨n, rfl⟩ := Int.eq_ofNat_of_zero_le h0
  have hn : n < l.length := by omega
  have hv : l[n] = false := by simpa [rdOf, hn] using h
  simp only [Int.toNat_natCast]
  clear h h0 h1
  induction l generalizing n with
  | nil => simp at hn
  | cons x l ih =>
    cases n with
    | zero => simp at hv; subst hv; simp [unset]
    | succ n =>
      have hn' : n < l.length := by simpa using hn
      have := ih n hn' (by simpa using hv)
      unfold unset at this ⊢
      simp only [List.set_cons_succ, List.countP_cons]
      omega
theorem sides_ends (bs : List S36) (hT : okT bs) : ∀ (k : Nat) (st : List S171) (i o : List Bool), (∀ v ∈ st, 0 ≤ v.f0 ∧ v.f0 < bs.length) → i.length = bs.length → o.length = bs.length → st.length + 3 * (unset i + unset o) ≤ k →
    ∃ r, sidesGo bs k st i o = some r ∧ r.1.length = bs.length ∧ r.2.length = bs.length := by
  intro k
  induction k with
  | zero =>
    intro st i o hst hi ho hk
    cases st with
    | nil => exact ⟨_, rfl, hi, ho⟩
    | cons v st => simp at hk
  | succ k ih =>
    intro st i o hst hi ho hk
    cases st with
    | nil => exact ⟨_, rfl, hi, ho⟩
    | cons v st =>
      obtain ⟨vb, vi⟩ := v
      have hv := hst ⟨vb, vi⟩ (by simp)
      dsimp only at hv
      simp only [sidesGo]
      have hn := nexts_len (rd_T36 bs vb)
      have hns : ∀ v ∈ (List.map (fun t => (⟨t, blkEnd (rd_T36 bs vb).f0 vi⟩ : S171)) (nexts (rd_T36 bs vb))).reverse ++ st, 0 ≤ v.f0 ∧ v.f0 < bs.length := by
        intro u hu
        rcases List.mem_append.1 hu with hu | hu
        · rw [List.mem_reverse, List.mem_map] at hu
          obtain ⟨t, ht, rfl⟩ := hu
          exact hT _ (getD_mem (by omega)) t ht
        · exact hst u (by simp [hu])
      simp only [List.length_cons] at hk
      cases vi
      · simp only [Bool.false_eq_true, if_false]
        by_cases hq : rdOf false o vb = true
        · rw [if_pos hq]
          exact ih st i o (fun u hu => hst u (by simp [hu])) hi ho (by omega)
        · rw [if_neg hq]
          have := unset_set o vb hv.1 (by omega) (by simpa using hq)
          refine ih _ _ _ hns hi (by simp [ho]) ?_
          simp only [List.length_append, List.length_reverse, List.length_map]
          omega
      · simp only [if_true]
        by_cases hq : rdOf false i vb = true
        · rw [if_pos hq]
          exact ih st i o (fun u hu => hst u (by simp [hu])) hi ho (by omega)
        · rw [if_neg hq]
          have := unset_set i vb hv.1 (by omega) (by simpa using hq)
          refine ih _ _ _ hns (by simp [hi]) ho ?_
          simp only [List.length_append, List.length_reverse, List.length_map]
          omega
/-- may each block begin within an atomic one; outside -/
def sidesOf (bs : List S36) : List Bool × List Bool := (sidesGo bs (6 * bs.length + 2) [⟨0, false⟩] (List.replicate bs.length false) (List.replicate bs.length false)).getD ([], [])
theorem unset_rep (n : Nat) : unset (List.replicate n false) = n := by
  unfold unset
  rw [List.countP_replicate]; simp
theorem sidesOf_eq (bs : List S36) (hT : okT bs) (hne : 0 < bs.length) : sidesGo bs (6 * bs.length + 2) [⟨0, false⟩] (List.replicate bs.length false) (List.replicate bs.length false) = some ((sidesOf bs).1, (sidesOf bs).2) ∧ (sidesOf bs).1.length = bs.length ∧ (sidesOf bs).2.length = bs.length := by
  obtain ⟨r, hr, h1, h2⟩ := sides_ends bs hT (6 * bs.length + 2) [⟨0, false⟩] (List.replicate bs.length false) (List.replicate bs.length false) (by simp; omega) (by simp) (by simp) (by simp [unset_rep]; omega)
  have : sidesOf bs = r := by unfold sidesOf; rw [hr]; rfl
  rw [this]
  exact ⟨hr, h1, h2⟩
def faultS (xs : List Bool) (sites words : Int) (bs : List S36) : Nat × Nat × Bool :=
  match blkScan xs sites words bs.length bs 0 [] with
  | some p => (p.1, p.2, true)
  | none =>
    match bothScan (sidesOf bs).1 (sidesOf bs).2 bs.length 0 with
    | some n => (n, 0, true)
    | none =>
      match sideScan (sidesOf bs).1 (sidesOf bs).2 bs 0 with
      | some p => (p.1, p.2, true)
      | none => (0, 0, false)
end Go.Proofs.Ytjmeignhhheckaa.H
namespace Go.Proofs.Ytjmeignhhheckaa.H
open Go.RowKit Go.Maps Go.Proofs.YtjmeignhhheckaaW.PrintWords Go.Proofs.YtjmeignhhheckaaW.PrintLast Go.Proofs.Ytjmeignhhheckaa.Q
set_option maxRecDepth 100000
/-- what fault is called with -/
structure FIn (w0 : World) (K b nc bc : Nat) (A B : Option Addr) (xs : List Bool) (bs : List S36) (sites words : Int) (w : World) : Prop where
  h0 : Below w0.heap.size w0 w
  hb0 : w0.heap.size ≤ b
  hK : w.heap[K]? = some (.cells #[.slice A xs.length nc, .int .i64 sites, .slice B bs.length bc, .int .i64 words, .map (some b)] 148 (0, 0))
  hA : Kd.C Kd.bool w0 A xs.length xs
  hnc : xs.length ≤ nc
  hB : Kd.C k36 w0 B bs.length bs
  hbc : bs.length ≤ bc
  hM : SMap w b 0 []
  hst : sites ≤ 8192
  hin : insTotal bs ≤ 8192
  hne : 0 < bs.length
  hnb : bs.length ≤ 5000
theorem spot_ret {w0 : World} {R : Nat} {n k : Int} (h : w0.heap[R]? = some (.cells #[.int .i64 0, .int .i64 0] 41 (0, 0))) :
    ((w0.setCell ⟨R, 0, none⟩ (.int .i64 n)).setCell ⟨R, 1, none⟩ (.int .i64 k)).heap[R]? = some (.cells #[.int .i64 n, .int .i64 k] 41 (0, 0)) :=
  blk_put (blk_put h 0 _ rfl) 1 _ rfl
theorem fault_some {xs : List Bool} {sites words : Int} {bs : List S36} {n k : Nat} (h : blkScan xs sites words bs.length bs 0 [] = some (n, k)) : faultS xs sites words bs = (n, k, true) := by
  unfold faultS; rw [h]
theorem blk_inl {xs : List Bool} {sites words : Int} {nb : Nat} {bk : S36} {r : List S36} {n k : Nat} {met : List Int} (h : insScan xs sites words bk.f0 0 met = .inl k) : blkScan xs sites words nb (bk :: r) n met = some (n, k) := by
  unfold blkScan; rw [h]
theorem blk_last {xs : List Bool} {sites words : Int} {nb : Nat} {bk : S36} {r : List S36} {n : Nat} {met met2 : List Int} (h : insScan xs sites words bk.f0 0 met = .inr met2) : blkScan xs sites words nb (bk :: r) n met = if lastB xs nb bk then blkScan xs sites words nb r (n + 1) met2 else some (n, bk.f0.length) := by
  conv => lhs; unfold blkScan
  rw [h]
theorem drop46 (is : List S46) (q : Nat) (h : q < is.length) : is.drop q = rd_T46 is q :: is.drop (q + 1) := drop_at is q z46 h
theorem blk_none {xs : List Bool} {sites words : Int} {nb : Nat} : ∀ (bs : List S36) (n : Nat) (met : List Int), blkScan xs sites words nb bs n met = none → ∀ b ∈ bs, lastB xs nb b = true := by
  intro bs
  induction bs with
  | nil => intro n met _ b hb; cases hb
  | cons x bs ih =>
    intro n met h b hb
    cases hi : insScan xs sites words x.f0 0 met with
    | inl k => rw [blk_inl hi] at h; cases h
    | inr m2 =>
      rw [blk_last hi] at h
      cases hl : lastB xs nb x with
      | false => rw [hl] at h; simp at h
      | true =>
        rw [hl] at h
        rcases List.mem_cons.1 hb with rfl | hb
        · exact hl
        · exact ih _ _ (by simpa using h) b hb
theorem inN_iff {r : Int} {n : Nat} (h : inN r n = true) : 0 ≤ r ∧ r < n := by simpa [inN] using h
theorem last_next {xs : List Bool} {nb : Nat} {b : S36} (h : lastB xs nb b = true) : ∀ t ∈ nexts b, 0 ≤ t ∧ t < nb := by
  intro t ht
  unfold lastB at h
  unfold nexts at ht
  by_cases h1 : b.f1 = 1
  · have h2 : b.f1 ≠ 2 := by omega
    simp only [h1, if_true, Bool.and_eq_true] at h
    simp [h1] at ht
    subst ht
    exact inN_iff h.1.1
  · by_cases h2 : b.f1 = 2
    · simp only [h1, h2, if_true, if_false, Bool.and_eq_true, show ¬ ((2 : Int) = 1) from by decide] at h
      have hy := inN_iff h.1.1
      have hn := inN_iff h.1.2
      by_cases h3 : b.f3 = b.f4
      · simp [h2, h3] at ht; subst ht; exact hn
      · simp [h2, h3] at ht
        rcases ht with rfl | rfl
        · exact hy
        · exact hn
    · simp [h1, h2] at ht
theorem side_one {i o : List Bool} {bk : S36} {r : List S36} {m : Nat} (h : ¬ (rdOf false i (m : Int) = false ∧ rdOf false o (m : Int) = false)) :
    sideScan i o (bk :: r) m = match sideIns bk.f0 0 (rdOf false i m) with
      | .inl k => some (m, k)
      | .inr s => if s && bk.f1 == 3 then some (m, bk.f0.length) else sideScan i o r (m + 1) := by
  have hc : ¬ ((!(rdOf false i (m : Int)) && !(rdOf false o (m : Int))) = true) := by
    intro h2
    rw [Bool.and_eq_true] at h2
    exact h ⟨by simpa using h2.1, by simpa using h2.2⟩
  conv => lhs; unfold sideScan
  rw [if_neg hc]
  all_goals rfl
theorem okT_of {xs : List Bool} {sites words : Int} {bs : List S36} (h : blkScan xs sites words bs.length bs 0 [] = none) : okT bs := fun b hb => last_next (blk_none bs 0 [] h b hb)
set_option maxHeartbeats 4000000 in
theorem fault_calls (w0 : World) (K b nc bc : Nat) (A B : Option Addr) (xs : List Bool) (bs : List S36) (sites words : Int) (w : World)
    (hI : FIn w0 K b nc bc A B xs bs sites words w) :
    Calls Try.prog 95 #[.pointer (some ⟨K, 0, none⟩)] w fun e w' => e = .returned (.tuple #[.agg #[.int .i64 (faultS xs sites words bs).1, .int .i64 (faultS xs sites words bs).2.1], .bool (faultS xs sites words bs).2.2]) ∧ w.grownBy w' (some b) := by
  have HIN := Lib.hid hI
  have HKb := Lib.hid (hI.hM.ne_cells hI.hK)
  have hnb := hI.hnb
  clear hI
  have hu25 := Try.underlying25
  have hu148 := Try.underlying148
  have hu46 := Try.underlying46
  have hu36 := Try.underlying36
  have hu41 := Try.underlying41
  have HF := Lib.hid (FFr.mk (b := b) (grown_of_below (below_alloc (Below.refl w.heap.size w) (.cells #[.int .i64 0, .int .i64 0] 41)) (some b)) (blk_new w (.cells #[.int .i64 0, .int .i64 0] 41)))
  have HRb := Lib.hid (show some w.heap.size ≠ some b from fun e => by have := HIN.out.hM.lt; have := Option.some.inj e; omega)
  have HM := Lib.hid (HIN.out.hM.alloc (.cells #[.int .i64 0, .int .i64 0] 41))
  have hk2 : (w.alloc (.cells #[.int .i64 0, .int .i64 0] 41)).cell? ⟨K, 2, none⟩ = some (.slice B bs.length bc) := (blk_cell (blk_alloc HIN.out.hK _) 2).trans rfl
  go_enter Try.func95, Try.ntmps95
  go_wp2
  clear hk2
  go_loopw [23] (fun j wr => ∃ (n : Nat) (met : List Int) (N : Nat), n ≤ bs.length ∧ j = .int .i64 n ∧ FFr w b w.heap.size wr ∧ SMap wr b N met ∧ N + insTotal (bs.drop n) ≤ 8192 ∧ blkScan xs sites words bs.length (bs.drop n) n met = blkScan xs sites words bs.length bs 0 []) (fun j _ => bs.length - (intOf j).toNat)
  case atStart => exact ⟨0, [], 0, Nat.zero_le _, rfl, HF.out, HM.out, by simpa using HIN.out.hin, rfl⟩
  case round =>
    obtain ⟨n, met, N, hnl, rfl, hF, hM, hN, hsc⟩ := hrel
    clear HF HM
    have HF := Lib.hid hF
    have HM := Lib.hid hM
    have HN := Lib.hid hN
    have HSC := Lib.hid hsc
    have HBW := Lib.hid (below_of_grown HIN.out.h0 HIN.out.hb0 hF.g)
    clear hF hM hN hsc
    by_cases hlt : n < bs.length
    · obtain ⟨ad2, A3, c3, hA, b0, b1, b2, b3, b4, hc3, hC3⟩ := at_T36 HIN.out.hB (n : Int) (by omega) (by omega)
      subst hA
      simp only [Int.toNat_natCast] at b0 b1 b2 b3 b4
      have b0 := pw_cell_below HBW.out b0
      have b1 := pw_cell_below HBW.out b1
      have b2 := pw_cell_below HBW.out b2
      have b3 := pw_cell_below HBW.out b3
      have b4 := pw_cell_below HBW.out b4
      have HTD := Lib.hid (insTotal_drop bs n hlt)
      have HDR := Lib.hid (show bs.drop n = rd_T36 bs n :: bs.drop (n + 1) from drop_at bs n z36 hlt)
      generalize hbk : rd_T36 bs n = bk at *
      have HBK := Lib.hid hbk
      clear hbk
      have HC3 := Lib.hid hC3
      have HLC := Lib.hid hc3
      have hcm := hC3.2.1
      clear hC3 hc3
      obtain ⟨wo, rfl⟩ : ∃ wo : World, wo = wr := ⟨_, rfl⟩
      have HF2 := Lib.hid (HF.out.alloc (.cells #[.slice A3 bk.f0.length c3, .int .u8 bk.f1, .int .i64 bk.f2, .int .i64 bk.f3, .int .i64 bk.f4] 36))
      have HM2 := Lib.hid (HM.out.alloc (.cells #[.slice A3 bk.f0.length c3, .int .u8 bk.f1, .int .i64 bk.f2, .int .i64 bk.f3, .int .i64 bk.f4] 36))
      have HX2 := Lib.hid (blk_new wo (.cells #[.slice A3 bk.f0.length c3, .int .u8 bk.f1, .int .i64 bk.f2, .int .i64 bk.f3, .int .i64 bk.f4] 36))
      have HXW := Lib.hid HF.out.g.size
      go_wp2
      clear b0 b1 b2 b3 b4 HF HM HBW
      generalize wo.heap.size = gx at *
      go_loopw [31] (fun j wr => ∃ (q : Nat) (met2 : List Int) (N2 : Nat), q ≤ bk.f0.length ∧ j = .int .i64 q ∧ FFr w b w.heap.size wr ∧ SMap wr b N2 met2 ∧ N2 + (bk.f0.length - q) + insTotal (bs.drop (n + 1)) ≤ 8192 ∧ insScan xs sites words (bk.f0.drop q) q met2 = insScan xs sites words bk.f0 0 met ∧ wr.heap[gx]? = some (.cells #[.slice A3 bk.f0.length c3, .int .u8 bk.f1, .int .i64 bk.f2, .int .i64 bk.f3, .int .i64 bk.f4] 36 (0, 0))) (fun j _ => bk.f0.length - (intOf j).toNat)
      case atStart => exact ⟨0, met, N, Nat.zero_le _, rfl, HF2.out, HM2.out, by have := HN.out; have := HTD.out; omega, rfl, HX2.out⟩
      case round =>
        obtain ⟨q, met2, N2, hql, rfl, hF, hM, hN, hsc, hX⟩ := hrel
        clear HF2 HM2 HX2
        have HF := Lib.hid hF
        have HM := Lib.hid hM
        have HN2 := Lib.hid hN
        have HSI := Lib.hid hsc
        have HX := Lib.hid hX
        have HBW := Lib.hid (below_of_grown HIN.out.h0 HIN.out.hb0 hF.g)
        clear hF hM hN hsc hX
        by_cases hqlt : q < bk.f0.length
        · obtain ⟨ad3, hA3, d0, d1, d2, d3, d4, d5⟩ := at_T46 (Kd.C_below HC3.out HBW.out) (q : Int) (by omega) (by omega)
          subst hA3
          simp only [Int.toNat_natCast] at d0 d1 d2 d3 d4 d5
          have HD := Lib.hid (drop46 bk.f0 q hqlt)
          generalize rd_T46 bk.f0 q = ii at *
          have HK5 := Lib.hid (blk_alloc (blk_grown HIN.out.hK HF.out.g HKb.out) (.cells #[.int .u8 ii.f0, .int .u8 ii.f1, .int .i64 ii.f2, .int .i64 ii.f3, .int .i64 ii.f4, .int .i64 ii.f5] 46))
          have HA5 := Lib.hid (Kd.C_alloc (Kd.C_below HIN.out.hA HBW.out) (.cells #[.int .u8 ii.f0, .int .u8 ii.f1, .int .i64 ii.f2, .int .i64 ii.f3, .int .i64 ii.f4, .int .i64 ii.f5] 46))
          have HM5 := Lib.hid (HM.out.alloc (.cells #[.int .u8 ii.f0, .int .u8 ii.f1, .int .i64 ii.f2, .int .i64 ii.f3, .int .i64 ii.f4, .int .i64 ii.f5] 46))
          have HF5 := Lib.hid (HF.out.alloc (.cells #[.int .u8 ii.f0, .int .u8 ii.f1, .int .i64 ii.f2, .int .i64 ii.f3, .int .i64 ii.f4, .int .i64 ii.f5] 46))
          have HX5 := Lib.hid (blk_alloc HX.out (.cells #[.int .u8 ii.f0, .int .u8 ii.f1, .int .i64 ii.f2, .int .i64 ii.f3, .int .i64 ii.f4, .int .i64 ii.f5] 46))
          have HXb := Lib.hid (HM.out.ne_cells HX.out)
          go_wp2_with fail
          clear d0 d1 d2 d3 d4 d5
          refine (ins_calls K b nc bc N2 _ _ xs bs.length sites words met2 ii _ HK5.out HA5.out HM5.out (by have := HN2.out; unfold maxLen; omega) HIN.out.hst).mono ?_
          rintro e w5 ⟨rfl, hg5, hm5⟩
          have HG5 := Lib.hid hg5
          have HM6 := Lib.hid hm5
          have HF6 := Lib.hid (HF5.out.step HRb.out hg5)
          have HX6 := Lib.hid (blk_grown HX5.out hg5 HXb.out)
          clear hg5 hm5
          have hr0 : w5.cell? ⟨w.heap.size, 0, none⟩ = some (.int .i64 0) := (blk_cell HF6.out.r 0).trans rfl
          have hr1 : w5.cell? ⟨w.heap.size, 1, none⟩ = some (.int .i64 0) := (blk_cell HF6.out.r 1).trans rfl
          have hf0 := blk_frozen HF6.out.r 0
          have hf1 := blk_frozen HF6.out.r 1
          cases hq : insB xs sites words met2 ii with
          | false =>
            have HS := Lib.hid (show faultS xs sites words bs = (n, q, true) from fault_some (by
              rw [← HSC.out, HDR.out]
              refine blk_inl ?_
              rw [← HSI.out, HD.out]
              simp [insScan, hq]))
            have HR7 := Lib.hid (spot_ret (n := n) (k := q) HF6.out.r)
            have HG7 := Lib.hid (grown_set (grown_set HF6.out.g (p := ⟨w.heap.size, 0, none⟩) (Nat.le_refl _) (.int .i64 n)) (p := ⟨w.heap.size, 1, none⟩) (Nat.le_refl _) (.int .i64 q))
            go_wp2
            generalize (w5.setCell ⟨w.heap.size, 0, none⟩ (.int .i64 n)).setCell ⟨w.heap.size, 1, none⟩ (.int .i64 q) = w7 at *
            have hr7 : w7.cell? ⟨w.heap.size, 0, none⟩ = some (.int .i64 n) := (blk_cell HR7.out 0).trans rfl
            have hr8 : w7.cell? ⟨w.heap.size, 1, none⟩ = some (.int .i64 q) := (blk_cell HR7.out 1).trans rfl
            refine bodyPost_ret (v := .tuple #[.agg #[.int .i64 n, .int .i64 q], .bool true]) (by simp [results, Try.results95, go_sem, hr7, hr8]) rfl ⟨?_, HG7.out⟩
            rw [HS.out]
          | true =>
            go_wp2
            go_roundw
            case rel =>
              refine ⟨q + 1, _, N2 + 1, by omega, by go_num, HF6.out, HM6.out hq, by have := HN2.out; omega, ?_, HX6.out⟩
              rw [← HSI.out, HD.out]
              simp [insScan, hq]
            case measure => simp [intOf]; omega
        · have hqe : q = bk.f0.length := by omega
          subst hqe
          have HIS := Lib.hid (show insScan xs sites words bk.f0 0 met = .inr met2 from by rw [← HSI.out, List.drop_length]; rfl)
          obtain ⟨h0, h1, h2, h3, h4⟩ := cells5 HX.out
          have HK5 := Lib.hid (blk_grown HIN.out.hK HF.out.g HKb.out)
          go_wp2_with fail
          refine (last_calls K nc bc (.map (some b)) A _ xs bs.length sites words _ bk.f1 bk.f2 bk.f3 bk.f4 bk.f0 _ HK5.out (Kd.C_below HIN.out.hA HBW.out)).mono ?_
          rintro e w5 ⟨rfl, hb5⟩
          have HF6 := Lib.hid (HF.out.below hb5)
          have HM6 := Lib.hid (HM.out.below hb5)
          have HX6 := Lib.hid (blk_below HX.out hb5)
          clear hb5 h0 h1 h2 h3 h4
          have hr0 : w5.cell? ⟨w.heap.size, 0, none⟩ = some (.int .i64 0) := (blk_cell HF6.out.r 0).trans rfl
          have hr1 : w5.cell? ⟨w.heap.size, 1, none⟩ = some (.int .i64 0) := (blk_cell HF6.out.r 1).trans rfl
          have hf0 := blk_frozen HF6.out.r 0
          have hf1 := blk_frozen HF6.out.r 1
          obtain ⟨h0, h1, h2, h3, h4⟩ := cells5 HX6.out
          cases hq : lastB xs bs.length bk with
          | false =>
            have HS := Lib.hid (show faultS xs sites words bs = (n, bk.f0.length, true) from fault_some (by
              rw [← HSC.out, HDR.out, blk_last HIS.out, hq]; rfl))
            have HR7 := Lib.hid (spot_ret (n := n) (k := bk.f0.length) HF6.out.r)
            have HG7 := Lib.hid (grown_set (grown_set HF6.out.g (p := ⟨w.heap.size, 0, none⟩) (Nat.le_refl _) (.int .i64 n)) (p := ⟨w.heap.size, 1, none⟩) (Nat.le_refl _) (.int .i64 bk.f0.length))
            go_wp2
            generalize (w5.setCell ⟨w.heap.size, 0, none⟩ (.int .i64 n)).setCell ⟨w.heap.size, 1, none⟩ (.int .i64 bk.f0.length) = w7 at *
            have hr7 : w7.cell? ⟨w.heap.size, 0, none⟩ = some (.int .i64 n) := (blk_cell HR7.out 0).trans rfl
            have hr8 : w7.cell? ⟨w.heap.size, 1, none⟩ = some (.int .i64 bk.f0.length) := (blk_cell HR7.out 1).trans rfl
            refine bodyPost_ret (v := .tuple #[.agg #[.int .i64 n, .int .i64 bk.f0.length], .bool true]) (by simp [results, Try.results95, go_sem, hr7, hr8]) rfl ⟨?_, HG7.out⟩
            rw [HS.out]
          | true =>
            go_wp2
            go_roundw
            case rel =>
              refine ⟨n + 1, met2, N2, by omega, by go_num, HF6.out, HM6.out, by have := HN2.out; omega, ?_⟩
              rw [← HSC.out, HDR.out, blk_last HIS.out, hq]; rfl
            case measure => simp [intOf]; omega
    · have hne : n = bs.length := by omega
      subst hne
      have HNO := Lib.hid (show blkScan xs sites words bs.length bs 0 [] = none from by rw [← HSC.out, List.drop_length]; rfl)
      have hg0 : wr.cell? ⟨K, 0, none⟩ = some (.slice A xs.length nc) := (blk_cell (blk_grown HIN.out.hK HF.out.g HKb.out) 0).trans rfl
      have hg1 : wr.cell? ⟨K, 1, none⟩ = some (.int .i64 sites) := (blk_cell (blk_grown HIN.out.hK HF.out.g HKb.out) 1).trans rfl
      have hg2 : wr.cell? ⟨K, 2, none⟩ = some (.slice B bs.length bc) := (blk_cell (blk_grown HIN.out.hK HF.out.g HKb.out) 2).trans rfl
      -- THE SECOND PART
      go_wp2_with fail
      have HOT := Lib.hid (okT_of HNO.out)
      have HSO := Lib.hid (sidesOf_eq bs HOT.out HIN.out.hne)
      refine (sides_calls A nc xs sites B bc bs _ _ _ _ (Kd.C_below HIN.out.hB HBW.out) HIN.out.hbc HIN.out.hne HIN.out.hnb (by omega) HOT.out HSO.out.1).mono ?_
      rintro e w5 ⟨gi, go, rfl, hgi, hgo, hgne, hbi, hbo, hb5⟩
      have HF5 := Lib.hid (HF.out.below hb5)
      have HI5 := Lib.hid hbi
      have HO5 := Lib.hid hbo
      have HGI := Lib.hid (Nat.le_trans HF.out.g.size hgi)
      have HGO := Lib.hid (Nat.le_trans HF.out.g.size hgo)
      have HRI := Lib.hid (show w.heap.size ≠ gi from by have := blk_lt HF.out.r; omega)
      have HRO := Lib.hid (show w.heap.size ≠ go from by have := blk_lt HF.out.r; omega)
      have HIB := Lib.hid (show some gi ≠ some b from fun e => by have := HM.out.lt; have := Option.some.inj e; omega)
      have HOB := Lib.hid (show some go ≠ some b from fun e => by have := HM.out.lt; have := Option.some.inj e; omega)
      clear hb5 hbi hbo hg0 hg1 hg2 hgi hgo hgne
      have hil := HSO.out.2.1
      have hol := HSO.out.2.2
      have HIL := Lib.hid hil
      have HOL := Lib.hid hol
      clear hil hol
      go_wp2
      go_loop [64] (fun j => ∃ m : Nat, m ≤ bs.length ∧ j = .int .i64 m ∧ Aside0 (bothScan (sidesOf bs).1 (sidesOf bs).2 (bs.length - m) m = bothScan (sidesOf bs).1 (sidesOf bs).2 bs.length 0)) (fun j => bs.length - (intOf j).toNat)
      case atStart => exact ⟨0, Nat.zero_le _, rfl, ⟨rfl⟩⟩
      case round =>
        obtain ⟨m, hml, rfl, hsc⟩ := hrel
        by_cases hlt : m < bs.length
        · have hci := BB.cell HI5.out (m : Int) (by omega) (by rw [HIL.out]; omega)
          have hco := BB.cell HO5.out (m : Int) (by omega) (by rw [HOL.out]; omega)
          simp only [Int.toNat_natCast] at hci hco
          have HSM := Lib.hid (show bothScan (sidesOf bs).1 (sidesOf bs).2 (bs.length - m) m = if rdOf false (sidesOf bs).1 m && rdOf false (sidesOf bs).2 m then some m else bothScan (sidesOf bs).1 (sidesOf bs).2 (bs.length - (m + 1)) (m + 1) from by
            rw [show bs.length - m = (bs.length - (m + 1)) + 1 from by omega]; rfl)
          cases hqi : rdOf false (sidesOf bs).1 (m : Int) with
          | false =>
            rw [hqi] at hci
            go_wp2
            go_round
            case rel =>
              refine ⟨m + 1, by omega, by go_num, ⟨?_⟩⟩
              rw [← hsc.out, HSM.out, hqi]; rfl
            case measure => simp [intOf]; omega
          | true =>
            cases hqo : rdOf false (sidesOf bs).2 (m : Int) with
            | false =>
              rw [hqi] at hci
              rw [hqo] at hco
              go_wp2
              go_round
              case rel =>
                refine ⟨m + 1, by omega, by go_num, ⟨?_⟩⟩
                rw [← hsc.out, HSM.out, hqi, hqo]; rfl
              case measure => simp [intOf]; omega
            | true =>
              rw [hqi] at hci
              rw [hqo] at hco
              have hr0 : w5.cell? ⟨w.heap.size, 0, none⟩ = some (.int .i64 0) := (blk_cell HF5.out.r 0).trans rfl
              have hr1 : w5.cell? ⟨w.heap.size, 1, none⟩ = some (.int .i64 0) := (blk_cell HF5.out.r 1).trans rfl
              have hf0 := blk_frozen HF5.out.r 0
              have hf1 := blk_frozen HF5.out.r 1
              have HS := Lib.hid (show faultS xs sites words bs = (m, 0, true) from by
                unfold faultS
                rw [HNO.out, ← hsc.out, HSM.out, hqi, hqo]; rfl)
              have HR7 := Lib.hid (spot_ret (n := m) (k := 0) HF5.out.r)
              have HG7 := Lib.hid (grown_set (grown_set HF5.out.g (p := ⟨w.heap.size, 0, none⟩) (Nat.le_refl _) (.int .i64 m)) (p := ⟨w.heap.size, 1, none⟩) (Nat.le_refl _) (.int .i64 0))
              go_wp2
              generalize (w5.setCell ⟨w.heap.size, 0, none⟩ (.int .i64 m)).setCell ⟨w.heap.size, 1, none⟩ (.int .i64 0) = w7 at *
              have hr7 : w7.cell? ⟨w.heap.size, 0, none⟩ = some (.int .i64 m) := (blk_cell HR7.out 0).trans rfl
              have hr8 : w7.cell? ⟨w.heap.size, 1, none⟩ = some (.int .i64 0) := (blk_cell HR7.out 1).trans rfl
              refine bodyPost_ret (v := .tuple #[.agg #[.int .i64 m, .int .i64 0], .bool true]) (by simp [results, Try.results95, go_sem, hr7, hr8]) rfl ⟨?_, HG7.out⟩
              rw [HS.out]; rfl
        · have hme : m = bs.length := by omega
          subst hme
          have FS := Lib.hid (show faultS xs sites words bs = match sideScan (sidesOf bs).1 (sidesOf bs).2 bs 0 with | some p => (p.1, p.2, true) | none => (0, 0, false) from by
            unfold faultS
            rw [HNO.out, ← hsc.out, Nat.sub_self]; rfl)
          clear hsc
          have HK5 := Lib.hid (blk_grown HIN.out.hK HF5.out.g HKb.out)
          have hg2 : w5.cell? ⟨K, 2, none⟩ = some (.slice B bs.length bc) := (blk_cell HK5.out 2).trans rfl
          go_wp2
          clear hg2
          go_loopw [86] (fun j wr => ∃ m : Nat, m ≤ bs.length ∧ j = .int .i64 m ∧ FFr w b w.heap.size wr ∧ BB wr gi (sidesOf bs).1 ∧ BB wr go (sidesOf bs).2 ∧ sideScan (sidesOf bs).1 (sidesOf bs).2 (bs.drop m) m = sideScan (sidesOf bs).1 (sidesOf bs).2 bs 0) (fun j _ => bs.length - (intOf j).toNat)
          case atStart => exact ⟨0, Nat.zero_le _, rfl, HF5.out, HI5.out, HO5.out, rfl⟩
          case round =>
            obtain ⟨m, hml, rfl, hF, hI, hO, hsc⟩ := hrel
            clear HF5 HI5 HO5 HF HM HBW HK5
            have HF5 := Lib.hid hF
            have HI5 := Lib.hid hI
            have HO5 := Lib.hid hO
            have HSC := Lib.hid hsc
            have HBW := Lib.hid (below_of_grown HIN.out.h0 HIN.out.hb0 hF.g)
            clear hF hI hO hsc
            by_cases hlt : m < bs.length
            · obtain ⟨ad2, A3, c3, hA, b0, b1, b2, b3, b4, hc3, hC3⟩ := at_T36 HIN.out.hB (m : Int) (by omega) (by omega)
              subst hA
              simp only [Int.toNat_natCast] at b0 b1 b2 b3 b4
              have b0 := pw_cell_below HBW.out b0
              have b1 := pw_cell_below HBW.out b1
              have b2 := pw_cell_below HBW.out b2
              have b3 := pw_cell_below HBW.out b3
              have b4 := pw_cell_below HBW.out b4
              have HDR := Lib.hid (show bs.drop m = rd_T36 bs m :: bs.drop (m + 1) from drop_at bs m z36 hlt)
              generalize hbk : rd_T36 bs m = bk at *
              have HBK := Lib.hid hbk
              clear hbk
              have HSD := Lib.hid (show sideScan (sidesOf bs).1 (sidesOf bs).2 bs 0 = sideScan (sidesOf bs).1 (sidesOf bs).2 (bk :: bs.drop (m + 1)) m from by rw [← HSC.out, HDR.out])
              have HC3 := Lib.hid hC3
              have HLC := Lib.hid hc3
              have hcm := hC3.2.1
              clear hC3 hc3
              obtain ⟨wo, rfl⟩ : ∃ wo : World, wo = wr := ⟨_, rfl⟩
              have hci := BB.cell (blk_alloc HI5.out (.cells #[.slice A3 bk.f0.length c3, .int .u8 bk.f1, .int .i64 bk.f2, .int .i64 bk.f3, .int .i64 bk.f4] 36)) (m : Int) (by omega) (by rw [HIL.out]; omega)
              have hco := BB.cell (blk_alloc HO5.out (.cells #[.slice A3 bk.f0.length c3, .int .u8 bk.f1, .int .i64 bk.f2, .int .i64 bk.f3, .int .i64 bk.f4] 36)) (m : Int) (by omega) (by rw [HOL.out]; omega)
              simp only [Int.toNat_natCast] at hci hco
              have HF2 := Lib.hid (HF5.out.alloc (.cells #[.slice A3 bk.f0.length c3, .int .u8 bk.f1, .int .i64 bk.f2, .int .i64 bk.f3, .int .i64 bk.f4] 36))
              have HI2 := Lib.hid (blk_alloc HI5.out (.cells #[.slice A3 bk.f0.length c3, .int .u8 bk.f1, .int .i64 bk.f2, .int .i64 bk.f3, .int .i64 bk.f4] 36))
              have HO2 := Lib.hid (blk_alloc HO5.out (.cells #[.slice A3 bk.f0.length c3, .int .u8 bk.f1, .int .i64 bk.f2, .int .i64 bk.f3, .int .i64 bk.f4] 36))
              have HX2 := Lib.hid (blk_new wo (.cells #[.slice A3 bk.f0.length c3, .int .u8 bk.f1, .int .i64 bk.f2, .int .i64 bk.f3, .int .i64 bk.f4] 36))
              by_cases hnn : rdOf false (sidesOf bs).1 (m : Int) = false ∧ rdOf false (sidesOf bs).2 (m : Int) = false
              · rw [hnn.1] at hci
                rw [hnn.2] at hco
                have HNN := Lib.hid hnn
                clear hnn
                go_wp2
                go_roundw
                case rel =>
                  refine ⟨m + 1, by omega, by go_num, HF2.out, HI2.out, HO2.out, ?_⟩
                  rw [HSD.out]
                  conv => rhs; unfold sideScan
                  rw [HNN.out.1, HNN.out.2]; rfl
                case measure => simp [intOf]; omega
              · have HNO2 := Lib.hid hnn
                clear hnn
                cases hqi : rdOf false (sidesOf bs).1 (m : Int)
                · rw [hqi] at hci
                  have hqo : rdOf false (sidesOf bs).2 (m : Int) = true := by
                    cases h : rdOf false (sidesOf bs).2 (m : Int)
                    · exact absurd ⟨hqi, h⟩ HNO2.out
                    · rfl
                  rw [hqo] at hco
                  clear hqo
                  have HQI := Lib.hid hqi
                  clear hqi
                  go_wp2
                  clear b0 b1 b2 b3 b4 hci
                  have HXW := Lib.hid HF5.out.g.size
                  clear HF5 HI5 HO5 HBW
                  generalize wo.heap.size = gx at *
                  go_loopw [110, 13] (fun j vs wr => ∃ (q : Nat) (sv : Bool), q ≤ bk.f0.length ∧ j = .int .i64 q ∧ vs = .bool sv ∧ FFr w b w.heap.size wr ∧ BB wr gi (sidesOf bs).1 ∧ BB wr go (sidesOf bs).2 ∧ wr.heap[gx]? = some (.cells #[.slice A3 bk.f0.length c3, .int .u8 bk.f1, .int .i64 bk.f2, .int .i64 bk.f3, .int .i64 bk.f4] 36 (0, 0)) ∧ sideIns (bk.f0.drop q) q sv = sideIns bk.f0 0 (rdOf false (sidesOf bs).1 m)) (fun j _ _ => bk.f0.length - (intOf j).toNat)
                  case atStart => exact ⟨0, _, Nat.zero_le _, rfl, rfl, HF2.out, HI2.out, HO2.out, HX2.out, by rw [HQI.out]; rfl⟩
                  case round =>
                    obtain ⟨q, sv, hql, rfl, rfl, hF, hI, hO, hX, hsi⟩ := hrel
                    clear HF2 HI2 HO2 HX2
                    have HF2 := Lib.hid hF
                    have HI2 := Lib.hid hI
                    have HO2 := Lib.hid hO
                    have HX2 := Lib.hid hX
                    have HSI := Lib.hid hsi
                    have HBW := Lib.hid (below_of_grown HIN.out.h0 HIN.out.hb0 hF.g)
                    clear hF hI hO hX hsi
                    by_cases hqlt : q < bk.f0.length
                    · obtain ⟨ad3, hA3, d0, d1, d2, d3, d4, d5⟩ := at_T46 (Kd.C_below HC3.out HBW.out) (q : Int) (by omega) (by omega)
                      subst hA3
                      simp only [Int.toNat_natCast] at d0 d1 d2 d3 d4 d5
                      have HDQ := Lib.hid (drop46 bk.f0 q hqlt)
                      generalize rd_T46 bk.f0 q = ii at *
                      have HF5 := Lib.hid (HF2.out.alloc (.cells #[.int .u8 ii.f0, .int .u8 ii.f1, .int .i64 ii.f2, .int .i64 ii.f3, .int .i64 ii.f4, .int .i64 ii.f5] 46))
                      have HI5 := Lib.hid (blk_alloc HI2.out (.cells #[.int .u8 ii.f0, .int .u8 ii.f1, .int .i64 ii.f2, .int .i64 ii.f3, .int .i64 ii.f4, .int .i64 ii.f5] 46))
                      have HO5 := Lib.hid (blk_alloc HO2.out (.cells #[.int .u8 ii.f0, .int .u8 ii.f1, .int .i64 ii.f2, .int .i64 ii.f3, .int .i64 ii.f4, .int .i64 ii.f5] 46))
                      have HX5 := Lib.hid (blk_alloc HX2.out (.cells #[.int .u8 ii.f0, .int .u8 ii.f1, .int .i64 ii.f2, .int .i64 ii.f3, .int .i64 ii.f4, .int .i64 ii.f5] 46))
                      have hr0 : (wr.alloc (.cells #[.int .u8 ii.f0, .int .u8 ii.f1, .int .i64 ii.f2, .int .i64 ii.f3, .int .i64 ii.f4, .int .i64 ii.f5] 46)).cell? ⟨w.heap.size, 0, none⟩ = some (.int .i64 0) := (blk_cell HF5.out.r 0).trans rfl
                      have hr1 : (wr.alloc (.cells #[.int .u8 ii.f0, .int .u8 ii.f1, .int .i64 ii.f2, .int .i64 ii.f3, .int .i64 ii.f4, .int .i64 ii.f5] 46)).cell? ⟨w.heap.size, 1, none⟩ = some (.int .i64 0) := (blk_cell HF5.out.r 1).trans rfl
                      have hf0 := blk_frozen HF5.out.r 0
                      have hf1 := blk_frozen HF5.out.r 1
                      by_cases n13 : ii.f0 = 13
                      · have HK13 := Lib.hid n13
                        have e13 : (ii.f0 == 13) = true := by simpa using n13
                        clear n13
                        cases sv with
                        | false =>
                          have HST := Lib.hid (show sideStep ii false = (false, true) from by simp [sideStep, HK13.out])
                          go_wp2
                          go_roundw
                          case rel =>
                            refine ⟨q + 1, _, by omega, by go_num, rfl, HF5.out, HI5.out, HO5.out, HX5.out, ?_⟩
                            rw [← HSI.out, HDQ.out]
                            simp [sideIns, HST.out]
                          case measure => simp [intOf]; omega
                        | true =>
                          have HST := Lib.hid (show sideStep ii true = (true, true) from by simp [sideStep, HK13.out])
                          have HS := Lib.hid (show faultS xs sites words bs = (m, q, true) from by
                            rw [FS.out, HSD.out, side_one HNO2.out]
                            rw [show sideIns bk.f0 0 (rdOf false (sidesOf bs).1 m) = .inl q from by rw [← HSI.out, HDQ.out]; simp [sideIns, HST.out]])
                          have HR7 := Lib.hid (spot_ret (n := m) (k := q) HF5.out.r)
                          have HG7 := Lib.hid (grown_set (grown_set HF5.out.g (p := ⟨w.heap.size, 0, none⟩) (Nat.le_refl _) (.int .i64 m)) (p := ⟨w.heap.size, 1, none⟩) (Nat.le_refl _) (.int .i64 q))
                          go_wp2
                          generalize ((wr.alloc (.cells #[.int .u8 ii.f0, .int .u8 ii.f1, .int .i64 ii.f2, .int .i64 ii.f3, .int .i64 ii.f4, .int .i64 ii.f5] 46)).setCell ⟨w.heap.size, 0, none⟩ (.int .i64 m)).setCell ⟨w.heap.size, 1, none⟩ (.int .i64 q) = w7 at *
                          have hr7 : w7.cell? ⟨w.heap.size, 0, none⟩ = some (.int .i64 m) := (blk_cell HR7.out 0).trans rfl
                          have hr8 : w7.cell? ⟨w.heap.size, 1, none⟩ = some (.int .i64 q) := (blk_cell HR7.out 1).trans rfl
                          refine bodyPost_ret (v := .tuple #[.agg #[.int .i64 m, .int .i64 q], .bool true]) (by simp [results, Try.results95, go_sem, hr7, hr8]) rfl ⟨?_, HG7.out⟩
                          rw [HS.out]
                      by_cases n14 : ii.f0 = 14
                      · have HK13 := Lib.hid n14
                        have e13 : (ii.f0 == 13) = false := by simpa using n13
                        have e14 : (ii.f0 == 14) = true := by simpa using n14
                        clear n13 n14
                        cases sv with
                        | false =>
                          have HST := Lib.hid (show sideStep ii false = (true, false) from by simp [sideStep, HK13.out])
                          have HS := Lib.hid (show faultS xs sites words bs = (m, q, true) from by
                            rw [FS.out, HSD.out, side_one HNO2.out]
                            rw [show sideIns bk.f0 0 (rdOf false (sidesOf bs).1 m) = .inl q from by rw [← HSI.out, HDQ.out]; simp [sideIns, HST.out]])
                          have HR7 := Lib.hid (spot_ret (n := m) (k := q) HF5.out.r)
                          have HG7 := Lib.hid (grown_set (grown_set HF5.out.g (p := ⟨w.heap.size, 0, none⟩) (Nat.le_refl _) (.int .i64 m)) (p := ⟨w.heap.size, 1, none⟩) (Nat.le_refl _) (.int .i64 q))
                          go_wp2
                          generalize ((wr.alloc (.cells #[.int .u8 ii.f0, .int .u8 ii.f1, .int .i64 ii.f2, .int .i64 ii.f3, .int .i64 ii.f4, .int .i64 ii.f5] 46)).setCell ⟨w.heap.size, 0, none⟩ (.int .i64 m)).setCell ⟨w.heap.size, 1, none⟩ (.int .i64 q) = w7 at *
                          have hr7 : w7.cell? ⟨w.heap.size, 0, none⟩ = some (.int .i64 m) := (blk_cell HR7.out 0).trans rfl
                          have hr8 : w7.cell? ⟨w.heap.size, 1, none⟩ = some (.int .i64 q) := (blk_cell HR7.out 1).trans rfl
                          refine bodyPost_ret (v := .tuple #[.agg #[.int .i64 m, .int .i64 q], .bool true]) (by simp [results, Try.results95, go_sem, hr7, hr8]) rfl ⟨?_, HG7.out⟩
                          rw [HS.out]
                        | true =>
                          have HST := Lib.hid (show sideStep ii true = (false, false) from by simp [sideStep, HK13.out])
                          go_wp2
                          go_roundw
                          case rel =>
                            refine ⟨q + 1, _, by omega, by go_num, rfl, HF5.out, HI5.out, HO5.out, HX5.out, ?_⟩
                            rw [← HSI.out, HDQ.out]
                            simp [sideIns, HST.out]
                          case measure => simp [intOf]; omega
                      by_cases n7 : ii.f0 = 7
                      · have HK13 := Lib.hid n7
                        have e13 : (ii.f0 == 13) = false := by simpa using n13
                        have e14 : (ii.f0 == 14) = false := by simpa using n14
                        have e7 : (ii.f0 == 7) = true := by simpa using n7
                        clear n13 n14 n7
                        cases sv with
                        | false =>
                          have HST := Lib.hid (show sideStep ii false = (true, false) from by simp [sideStep, HK13.out])
                          have HS := Lib.hid (show faultS xs sites words bs = (m, q, true) from by
                            rw [FS.out, HSD.out, side_one HNO2.out]
                            rw [show sideIns bk.f0 0 (rdOf false (sidesOf bs).1 m) = .inl q from by rw [← HSI.out, HDQ.out]; simp [sideIns, HST.out]])
                          have HR7 := Lib.hid (spot_ret (n := m) (k := q) HF5.out.r)
                          have HG7 := Lib.hid (grown_set (grown_set HF5.out.g (p := ⟨w.heap.size, 0, none⟩) (Nat.le_refl _) (.int .i64 m)) (p := ⟨w.heap.size, 1, none⟩) (Nat.le_refl _) (.int .i64 q))
                          go_wp2
                          generalize ((wr.alloc (.cells #[.int .u8 ii.f0, .int .u8 ii.f1, .int .i64 ii.f2, .int .i64 ii.f3, .int .i64 ii.f4, .int .i64 ii.f5] 46)).setCell ⟨w.heap.size, 0, none⟩ (.int .i64 m)).setCell ⟨w.heap.size, 1, none⟩ (.int .i64 q) = w7 at *
                          have hr7 : w7.cell? ⟨w.heap.size, 0, none⟩ = some (.int .i64 m) := (blk_cell HR7.out 0).trans rfl
                          have hr8 : w7.cell? ⟨w.heap.size, 1, none⟩ = some (.int .i64 q) := (blk_cell HR7.out 1).trans rfl
                          refine bodyPost_ret (v := .tuple #[.agg #[.int .i64 m, .int .i64 q], .bool true]) (by simp [results, Try.results95, go_sem, hr7, hr8]) rfl ⟨?_, HG7.out⟩
                          rw [HS.out]
                        | true =>
                          have HST := Lib.hid (show sideStep ii true = (false, true) from by simp [sideStep, HK13.out])
                          go_wp2
                          go_roundw
                          case rel =>
                            refine ⟨q + 1, _, by omega, by go_num, rfl, HF5.out, HI5.out, HO5.out, HX5.out, ?_⟩
                            rw [← HSI.out, HDQ.out]
                            simp [sideIns, HST.out]
                          case measure => simp [intOf]; omega
                      by_cases n8 : ii.f0 = 8
                      · have HK13 := Lib.hid n8
                        have e13 : (ii.f0 == 13) = false := by simpa using n13
                        have e14 : (ii.f0 == 14) = false := by simpa using n14
                        have e7 : (ii.f0 == 7) = false := by simpa using n7
                        have e8 : (ii.f0 == 8) = true := by simpa using n8
                        clear n13 n14 n7 n8
                        cases sv with
                        | false =>
                          have HST := Lib.hid (show sideStep ii false = (true, false) from by simp [sideStep, HK13.out])
                          have HS := Lib.hid (show faultS xs sites words bs = (m, q, true) from by
                            rw [FS.out, HSD.out, side_one HNO2.out]
                            rw [show sideIns bk.f0 0 (rdOf false (sidesOf bs).1 m) = .inl q from by rw [← HSI.out, HDQ.out]; simp [sideIns, HST.out]])
                          have HR7 := Lib.hid (spot_ret (n := m) (k := q) HF5.out.r)
                          have HG7 := Lib.hid (grown_set (grown_set HF5.out.g (p := ⟨w.heap.size, 0, none⟩) (Nat.le_refl _) (.int .i64 m)) (p := ⟨w.heap.size, 1, none⟩) (Nat.le_refl _) (.int .i64 q))
                          go_wp2
                          generalize ((wr.alloc (.cells #[.int .u8 ii.f0, .int .u8 ii.f1, .int .i64 ii.f2, .int .i64 ii.f3, .int .i64 ii.f4, .int .i64 ii.f5] 46)).setCell ⟨w.heap.size, 0, none⟩ (.int .i64 m)).setCell ⟨w.heap.size, 1, none⟩ (.int .i64 q) = w7 at *
                          have hr7 : w7.cell? ⟨w.heap.size, 0, none⟩ = some (.int .i64 m) := (blk_cell HR7.out 0).trans rfl
                          have hr8 : w7.cell? ⟨w.heap.size, 1, none⟩ = some (.int .i64 q) := (blk_cell HR7.out 1).trans rfl
                          refine bodyPost_ret (v := .tuple #[.agg #[.int .i64 m, .int .i64 q], .bool true]) (by simp [results, Try.results95, go_sem, hr7, hr8]) rfl ⟨?_, HG7.out⟩
                          rw [HS.out]
                        | true =>
                          have HST := Lib.hid (show sideStep ii true = (false, true) from by simp [sideStep, HK13.out])
                          go_wp2
                          go_roundw
                          case rel =>
                            refine ⟨q + 1, _, by omega, by go_num, rfl, HF5.out, HI5.out, HO5.out, HX5.out, ?_⟩
                            rw [← HSI.out, HDQ.out]
                            simp [sideIns, HST.out]
                          case measure => simp [intOf]; omega
                      by_cases n9 : ii.f0 = 9
                      · have HK13 := Lib.hid n9
                        have e13 : (ii.f0 == 13) = false := by simpa using n13
                        have e14 : (ii.f0 == 14) = false := by simpa using n14
                        have e7 : (ii.f0 == 7) = false := by simpa using n7
                        have e8 : (ii.f0 == 8) = false := by simpa using n8
                        have e9 : (ii.f0 == 9) = true := by simpa using n9
                        clear n13 n14 n7 n8 n9
                        cases sv with
                        | false =>
                          have HST := Lib.hid (show sideStep ii false = (true, false) from by simp [sideStep, HK13.out])
                          have HS := Lib.hid (show faultS xs sites words bs = (m, q, true) from by
                            rw [FS.out, HSD.out, side_one HNO2.out]
                            rw [show sideIns bk.f0 0 (rdOf false (sidesOf bs).1 m) = .inl q from by rw [← HSI.out, HDQ.out]; simp [sideIns, HST.out]])
                          have HR7 := Lib.hid (spot_ret (n := m) (k := q) HF5.out.r)
                          have HG7 := Lib.hid (grown_set (grown_set HF5.out.g (p := ⟨w.heap.size, 0, none⟩) (Nat.le_refl _) (.int .i64 m)) (p := ⟨w.heap.size, 1, none⟩) (Nat.le_refl _) (.int .i64 q))
                          go_wp2
                          generalize ((wr.alloc (.cells #[.int .u8 ii.f0, .int .u8 ii.f1, .int .i64 ii.f2, .int .i64 ii.f3, .int .i64 ii.f4, .int .i64 ii.f5] 46)).setCell ⟨w.heap.size, 0, none⟩ (.int .i64 m)).setCell ⟨w.heap.size, 1, none⟩ (.int .i64 q) = w7 at *
                          have hr7 : w7.cell? ⟨w.heap.size, 0, none⟩ = some (.int .i64 m) := (blk_cell HR7.out 0).trans rfl
                          have hr8 : w7.cell? ⟨w.heap.size, 1, none⟩ = some (.int .i64 q) := (blk_cell HR7.out 1).trans rfl
                          refine bodyPost_ret (v := .tuple #[.agg #[.int .i64 m, .int .i64 q], .bool true]) (by simp [results, Try.results95, go_sem, hr7, hr8]) rfl ⟨?_, HG7.out⟩
                          rw [HS.out]
                        | true =>
                          have HST := Lib.hid (show sideStep ii true = (false, true) from by simp [sideStep, HK13.out])
                          go_wp2
                          go_roundw
                          case rel =>
                            refine ⟨q + 1, _, by omega, by go_num, rfl, HF5.out, HI5.out, HO5.out, HX5.out, ?_⟩
                            rw [← HSI.out, HDQ.out]
                            simp [sideIns, HST.out]
                          case measure => simp [intOf]; omega
                      by_cases n10 : ii.f0 = 10
                      · have HK13 := Lib.hid n10
                        have e13 : (ii.f0 == 13) = false := by simpa using n13
                        have e14 : (ii.f0 == 14) = false := by simpa using n14
                        have e7 : (ii.f0 == 7) = false := by simpa using n7
                        have e8 : (ii.f0 == 8) = false := by simpa using n8
                        have e9 : (ii.f0 == 9) = false := by simpa using n9
                        have e10 : (ii.f0 == 10) = true := by simpa using n10
                        clear n13 n14 n7 n8 n9 n10
                        cases sv with
                        | false =>
                          have HST := Lib.hid (show sideStep ii false = (true, false) from by simp [sideStep, HK13.out])
                          have HS := Lib.hid (show faultS xs sites words bs = (m, q, true) from by
                            rw [FS.out, HSD.out, side_one HNO2.out]
                            rw [show sideIns bk.f0 0 (rdOf false (sidesOf bs).1 m) = .inl q from by rw [← HSI.out, HDQ.out]; simp [sideIns, HST.out]])
                          have HR7 := Lib.hid (spot_ret (n := m) (k := q) HF5.out.r)
                          have HG7 := Lib.hid (grown_set (grown_set HF5.out.g (p := ⟨w.heap.size, 0, none⟩) (Nat.le_refl _) (.int .i64 m)) (p := ⟨w.heap.size, 1, none⟩) (Nat.le_refl _) (.int .i64 q))
                          go_wp2
                          generalize ((wr.alloc (.cells #[.int .u8 ii.f0, .int .u8 ii.f1, .int .i64 ii.f2, .int .i64 ii.f3, .int .i64 ii.f4, .int .i64 ii.f5] 46)).setCell ⟨w.heap.size, 0, none⟩ (.int .i64 m)).setCell ⟨w.heap.size, 1, none⟩ (.int .i64 q) = w7 at *
                          have hr7 : w7.cell? ⟨w.heap.size, 0, none⟩ = some (.int .i64 m) := (blk_cell HR7.out 0).trans rfl
                          have hr8 : w7.cell? ⟨w.heap.size, 1, none⟩ = some (.int .i64 q) := (blk_cell HR7.out 1).trans rfl
                          refine bodyPost_ret (v := .tuple #[.agg #[.int .i64 m, .int .i64 q], .bool true]) (by simp [results, Try.results95, go_sem, hr7, hr8]) rfl ⟨?_, HG7.out⟩
                          rw [HS.out]
                        | true =>
                          have HST := Lib.hid (show sideStep ii true = (false, true) from by simp [sideStep, HK13.out])
                          go_wp2
                          go_roundw
                          case rel =>
                            refine ⟨q + 1, _, by omega, by go_num, rfl, HF5.out, HI5.out, HO5.out, HX5.out, ?_⟩
                            rw [← HSI.out, HDQ.out]
                            simp [sideIns, HST.out]
                          case measure => simp [intOf]; omega
                      by_cases n11 : ii.f0 = 11
                      · have HK13 := Lib.hid n11
                        have e13 : (ii.f0 == 13) = false := by simpa using n13
                        have e14 : (ii.f0 == 14) = false := by simpa using n14
                        have e7 : (ii.f0 == 7) = false := by simpa using n7
                        have e8 : (ii.f0 == 8) = false := by simpa using n8
                        have e9 : (ii.f0 == 9) = false := by simpa using n9
                        have e10 : (ii.f0 == 10) = false := by simpa using n10
                        have e11 : (ii.f0 == 11) = true := by simpa using n11
                        clear n13 n14 n7 n8 n9 n10 n11
                        cases sv with
                        | false =>
                          have HST := Lib.hid (show sideStep ii false = (true, false) from by simp [sideStep, HK13.out])
                          have HS := Lib.hid (show faultS xs sites words bs = (m, q, true) from by
                            rw [FS.out, HSD.out, side_one HNO2.out]
                            rw [show sideIns bk.f0 0 (rdOf false (sidesOf bs).1 m) = .inl q from by rw [← HSI.out, HDQ.out]; simp [sideIns, HST.out]])
                          have HR7 := Lib.hid (spot_ret (n := m) (k := q) HF5.out.r)
                          have HG7 := Lib.hid (grown_set (grown_set HF5.out.g (p := ⟨w.heap.size, 0, none⟩) (Nat.le_refl _) (.int .i64 m)) (p := ⟨w.heap.size, 1, none⟩) (Nat.le_refl _) (.int .i64 q))
                          go_wp2
                          generalize ((wr.alloc (.cells #[.int .u8 ii.f0, .int .u8 ii.f1, .int .i64 ii.f2, .int .i64 ii.f3, .int .i64 ii.f4, .int .i64 ii.f5] 46)).setCell ⟨w.heap.size, 0, none⟩ (.int .i64 m)).setCell ⟨w.heap.size, 1, none⟩ (.int .i64 q) = w7 at *
                          have hr7 : w7.cell? ⟨w.heap.size, 0, none⟩ = some (.int .i64 m) := (blk_cell HR7.out 0).trans rfl
                          have hr8 : w7.cell? ⟨w.heap.size, 1, none⟩ = some (.int .i64 q) := (blk_cell HR7.out 1).trans rfl
                          refine bodyPost_ret (v := .tuple #[.agg #[.int .i64 m, .int .i64 q], .bool true]) (by simp [results, Try.results95, go_sem, hr7, hr8]) rfl ⟨?_, HG7.out⟩
                          rw [HS.out]
                        | true =>
                          have HST := Lib.hid (show sideStep ii true = (false, true) from by simp [sideStep, HK13.out])
                          go_wp2
                          go_roundw
                          case rel =>
                            refine ⟨q + 1, _, by omega, by go_num, rfl, HF5.out, HI5.out, HO5.out, HX5.out, ?_⟩
                            rw [← HSI.out, HDQ.out]
                            simp [sideIns, HST.out]
                          case measure => simp [intOf]; omega
                      have HK13 := Lib.hid (show ii.f0 ≠ 13 ∧ ii.f0 ≠ 14 ∧ ii.f0 ≠ 7 ∧ ii.f0 ≠ 8 ∧ ii.f0 ≠ 9 ∧ ii.f0 ≠ 10 ∧ ii.f0 ≠ 11 from ⟨n13, n14, n7, n8, n9, n10, n11⟩)
                      have e13 : (ii.f0 == 13) = false := by simpa using n13
                      have e14 : (ii.f0 == 14) = false := by simpa using n14
                      have e7 : (ii.f0 == 7) = false := by simpa using n7
                      have e8 : (ii.f0 == 8) = false := by simpa using n8
                      have e9 : (ii.f0 == 9) = false := by simpa using n9
                      have e10 : (ii.f0 == 10) = false := by simpa using n10
                      have e11 : (ii.f0 == 11) = false := by simpa using n11
                      clear n13 n14 n7 n8 n9 n10 n11
                      cases sv with
                      | false =>
                        have HST := Lib.hid (show sideStep ii false = (false, false) from by simp [sideStep, HK13.out])
                        go_wp2
                        go_roundw
                        case rel =>
                          refine ⟨q + 1, _, by omega, by go_num, rfl, HF5.out, HI5.out, HO5.out, HX5.out, ?_⟩
                          rw [← HSI.out, HDQ.out]
                          simp [sideIns, HST.out]
                        case measure => simp [intOf]; omega
                      | true =>
                        have HST := Lib.hid (show sideStep ii true = (false, true) from by simp [sideStep, HK13.out])
                        go_wp2
                        go_roundw
                        case rel =>
                          refine ⟨q + 1, _, by omega, by go_num, rfl, HF5.out, HI5.out, HO5.out, HX5.out, ?_⟩
                          rw [← HSI.out, HDQ.out]
                          simp [sideIns, HST.out]
                        case measure => simp [intOf]; omega
                    · have hqe : q = bk.f0.length := by omega
                      subst hqe
                      obtain ⟨h0, h1, h2, h3, h4⟩ := cells5 HX2.out
                      have HIS := Lib.hid (show sideIns bk.f0 0 (rdOf false (sidesOf bs).1 m) = .inr sv from by rw [← HSI.out, List.drop_length]; rfl)
                      have hr0 : wr.cell? ⟨w.heap.size, 0, none⟩ = some (.int .i64 0) := (blk_cell HF2.out.r 0).trans rfl
                      have hr1 : wr.cell? ⟨w.heap.size, 1, none⟩ = some (.int .i64 0) := (blk_cell HF2.out.r 1).trans rfl
                      have hf0 := blk_frozen HF2.out.r 0
                      have hf1 := blk_frozen HF2.out.r 1
                      by_cases hend : sv = true ∧ bk.f1 = 3
                      · have HS := Lib.hid (show faultS xs sites words bs = (m, bk.f0.length, true) from by
                          rw [FS.out, HSD.out, side_one HNO2.out, HIS.out]
                          simp [hend.1, hend.2])
                        have he3 : (bk.f1 == 3) = true := by simpa using hend.2
                        obtain ⟨rfl, _⟩ := hend
                        have HR7 := Lib.hid (spot_ret (n := m) (k := bk.f0.length) HF2.out.r)
                        have HG7 := Lib.hid (grown_set (grown_set HF2.out.g (p := ⟨w.heap.size, 0, none⟩) (Nat.le_refl _) (.int .i64 m)) (p := ⟨w.heap.size, 1, none⟩) (Nat.le_refl _) (.int .i64 bk.f0.length))
                        go_wp2
                        generalize (wr.setCell ⟨w.heap.size, 0, none⟩ (.int .i64 m)).setCell ⟨w.heap.size, 1, none⟩ (.int .i64 bk.f0.length) = w7 at *
                        have hr7 : w7.cell? ⟨w.heap.size, 0, none⟩ = some (.int .i64 m) := (blk_cell HR7.out 0).trans rfl
                        have hr8 : w7.cell? ⟨w.heap.size, 1, none⟩ = some (.int .i64 bk.f0.length) := (blk_cell HR7.out 1).trans rfl
                        refine bodyPost_ret (v := .tuple #[.agg #[.int .i64 m, .int .i64 bk.f0.length], .bool true]) (by simp [results, Try.results95, go_sem, hr7, hr8]) rfl ⟨?_, HG7.out⟩
                        rw [HS.out]
                      · have HGO := Lib.hid (show sideScan (sidesOf bs).1 (sidesOf bs).2 (bs.drop (m + 1)) (m + 1) = sideScan (sidesOf bs).1 (sidesOf bs).2 bs 0 from by
                          rw [HSD.out, side_one HNO2.out, HIS.out]
                          dsimp only
                          rw [if_neg]
                          intro h
                          rw [Bool.and_eq_true] at h
                          exact hend ⟨h.1, by simpa using h.2⟩)
                        cases sv
                        · clear hend
                          go_wp2
                          go_roundw
                          case rel => exact ⟨m + 1, by omega, by go_num, HF2.out, HI2.out, HO2.out, HGO.out⟩
                          case measure => simp [intOf]; omega
                        · have he3 : (bk.f1 == 3) = false := by
                            cases h : (bk.f1 == 3)
                            · rfl
                            · exact absurd ⟨rfl, by simpa using h⟩ hend
                          clear hend
                          go_wp2
                          go_roundw
                          case rel => exact ⟨m + 1, by omega, by go_num, HF2.out, HI2.out, HO2.out, HGO.out⟩
                          case measure => simp [intOf]; omega
                · rw [hqi] at hci
                  clear hco
                  have HQI := Lib.hid hqi
                  clear hqi
                  go_wp2
                  clear b0 b1 b2 b3 b4 hci
                  have HXW := Lib.hid HF5.out.g.size
                  clear HF5 HI5 HO5 HBW
                  generalize wo.heap.size = gx at *
                  go_loopw [110, 13] (fun j vs wr => ∃ (q : Nat) (sv : Bool), q ≤ bk.f0.length ∧ j = .int .i64 q ∧ vs = .bool sv ∧ FFr w b w.heap.size wr ∧ BB wr gi (sidesOf bs).1 ∧ BB wr go (sidesOf bs).2 ∧ wr.heap[gx]? = some (.cells #[.slice A3 bk.f0.length c3, .int .u8 bk.f1, .int .i64 bk.f2, .int .i64 bk.f3, .int .i64 bk.f4] 36 (0, 0)) ∧ sideIns (bk.f0.drop q) q sv = sideIns bk.f0 0 (rdOf false (sidesOf bs).1 m)) (fun j _ _ => bk.f0.length - (intOf j).toNat)
                  case atStart => exact ⟨0, _, Nat.zero_le _, rfl, rfl, HF2.out, HI2.out, HO2.out, HX2.out, by rw [HQI.out]; rfl⟩
                  case round =>
                    obtain ⟨q, sv, hql, rfl, rfl, hF, hI, hO, hX, hsi⟩ := hrel
                    clear HF2 HI2 HO2 HX2
                    have HF2 := Lib.hid hF
                    have HI2 := Lib.hid hI
                    have HO2 := Lib.hid hO
                    have HX2 := Lib.hid hX
                    have HSI := Lib.hid hsi
                    have HBW := Lib.hid (below_of_grown HIN.out.h0 HIN.out.hb0 hF.g)
                    clear hF hI hO hX hsi
                    by_cases hqlt : q < bk.f0.length
                    · obtain ⟨ad3, hA3, d0, d1, d2, d3, d4, d5⟩ := at_T46 (Kd.C_below HC3.out HBW.out) (q : Int) (by omega) (by omega)
                      subst hA3
                      simp only [Int.toNat_natCast] at d0 d1 d2 d3 d4 d5
                      have HDQ := Lib.hid (drop46 bk.f0 q hqlt)
                      generalize rd_T46 bk.f0 q = ii at *
                      have HF5 := Lib.hid (HF2.out.alloc (.cells #[.int .u8 ii.f0, .int .u8 ii.f1, .int .i64 ii.f2, .int .i64 ii.f3, .int .i64 ii.f4, .int .i64 ii.f5] 46))
                      have HI5 := Lib.hid (blk_alloc HI2.out (.cells #[.int .u8 ii.f0, .int .u8 ii.f1, .int .i64 ii.f2, .int .i64 ii.f3, .int .i64 ii.f4, .int .i64 ii.f5] 46))
                      have HO5 := Lib.hid (blk_alloc HO2.out (.cells #[.int .u8 ii.f0, .int .u8 ii.f1, .int .i64 ii.f2, .int .i64 ii.f3, .int .i64 ii.f4, .int .i64 ii.f5] 46))
                      have HX5 := Lib.hid (blk_alloc HX2.out (.cells #[.int .u8 ii.f0, .int .u8 ii.f1, .int .i64 ii.f2, .int .i64 ii.f3, .int .i64 ii.f4, .int .i64 ii.f5] 46))
                      have hr0 : (wr.alloc (.cells #[.int .u8 ii.f0, .int .u8 ii.f1, .int .i64 ii.f2, .int .i64 ii.f3, .int .i64 ii.f4, .int .i64 ii.f5] 46)).cell? ⟨w.heap.size, 0, none⟩ = some (.int .i64 0) := (blk_cell HF5.out.r 0).trans rfl
                      have hr1 : (wr.alloc (.cells #[.int .u8 ii.f0, .int .u8 ii.f1, .int .i64 ii.f2, .int .i64 ii.f3, .int .i64 ii.f4, .int .i64 ii.f5] 46)).cell? ⟨w.heap.size, 1, none⟩ = some (.int .i64 0) := (blk_cell HF5.out.r 1).trans rfl
                      have hf0 := blk_frozen HF5.out.r 0
                      have hf1 := blk_frozen HF5.out.r 1
                      by_cases n13 : ii.f0 = 13
                      · have HK13 := Lib.hid n13
                        have e13 : (ii.f0 == 13) = true := by simpa using n13
                        clear n13
                        cases sv with
                        | false =>
                          have HST := Lib.hid (show sideStep ii false = (false, true) from by simp [sideStep, HK13.out])
                          go_wp2
                          go_roundw
                          case rel =>
                            refine ⟨q + 1, _, by omega, by go_num, rfl, HF5.out, HI5.out, HO5.out, HX5.out, ?_⟩
                            rw [← HSI.out, HDQ.out]
                            simp [sideIns, HST.out]
                          case measure => simp [intOf]; omega
                        | true =>
                          have HST := Lib.hid (show sideStep ii true = (true, true) from by simp [sideStep, HK13.out])
                          have HS := Lib.hid (show faultS xs sites words bs = (m, q, true) from by
                            rw [FS.out, HSD.out, side_one HNO2.out]
                            rw [show sideIns bk.f0 0 (rdOf false (sidesOf bs).1 m) = .inl q from by rw [← HSI.out, HDQ.out]; simp [sideIns, HST.out]])
                          have HR7 := Lib.hid (spot_ret (n := m) (k := q) HF5.out.r)
                          have HG7 := Lib.hid (grown_set (grown_set HF5.out.g (p := ⟨w.heap.size, 0, none⟩) (Nat.le_refl _) (.int .i64 m)) (p := ⟨w.heap.size, 1, none⟩) (Nat.le_refl _) (.int .i64 q))
                          go_wp2
                          generalize ((wr.alloc (.cells #[.int .u8 ii.f0, .int .u8 ii.f1, .int .i64 ii.f2, .int .i64 ii.f3, .int .i64 ii.f4, .int .i64 ii.f5] 46)).setCell ⟨w.heap.size, 0, none⟩ (.int .i64 m)).setCell ⟨w.heap.size, 1, none⟩ (.int .i64 q) = w7 at *
                          have hr7 : w7.cell? ⟨w.heap.size, 0, none⟩ = some (.int .i64 m) := (blk_cell HR7.out 0).trans rfl
                          have hr8 : w7.cell? ⟨w.heap.size, 1, none⟩ = some (.int .i64 q) := (blk_cell HR7.out 1).trans rfl
                          refine bodyPost_ret (v := .tuple #[.agg #[.int .i64 m, .int .i64 q], .bool true]) (by simp [results, Try.results95, go_sem, hr7, hr8]) rfl ⟨?_, HG7.out⟩
                          rw [HS.out]
                      by_cases n14 : ii.f0 = 14
                      · have HK13 := Lib.hid n14
                        have e13 : (ii.f0 == 13) = false := by simpa using n13
                        have e14 : (ii.f0 == 14) = true := by simpa using n14
                        clear n13 n14
                        cases sv with
                        | false =>
                          have HST := Lib.hid (show sideStep ii false = (true, false) from by simp [sideStep, HK13.out])
                          have HS := Lib.hid (show faultS xs sites words bs = (m, q, true) from by
                            rw [FS.out, HSD.out, side_one HNO2.out]
                            rw [show sideIns bk.f0 0 (rdOf false (sidesOf bs).1 m) = .inl q from by rw [← HSI.out, HDQ.out]; simp [sideIns, HST.out]])
                          have HR7 := Lib.hid (spot_ret (n := m) (k := q) HF5.out.r)
                          have HG7 := Lib.hid (grown_set (grown_set HF5.out.g (p := ⟨w.heap.size, 0, none⟩) (Nat.le_refl _) (.int .i64 m)) (p := ⟨w.heap.size, 1, none⟩) (Nat.le_refl _) (.int .i64 q))
                          go_wp2
                          generalize ((wr.alloc (.cells #[.int .u8 ii.f0, .int .u8 ii.f1, .int .i64 ii.f2, .int .i64 ii.f3, .int .i64 ii.f4, .int .i64 ii.f5] 46)).setCell ⟨w.heap.size, 0, none⟩ (.int .i64 m)).setCell ⟨w.heap.size, 1, none⟩ (.int .i64 q) = w7 at *
                          have hr7 : w7.cell? ⟨w.heap.size, 0, none⟩ = some (.int .i64 m) := (blk_cell HR7.out 0).trans rfl
                          have hr8 : w7.cell? ⟨w.heap.size, 1, none⟩ = some (.int .i64 q) := (blk_cell HR7.out 1).trans rfl
                          refine bodyPost_ret (v := .tuple #[.agg #[.int .i64 m, .int .i64 q], .bool true]) (by simp [results, Try.results95, go_sem, hr7, hr8]) rfl ⟨?_, HG7.out⟩
                          rw [HS.out]
                        | true =>
                          have HST := Lib.hid (show sideStep ii true = (false, false) from by simp [sideStep, HK13.out])
                          go_wp2
                          go_roundw
                          case rel =>
                            refine ⟨q + 1, _, by omega, by go_num, rfl, HF5.out, HI5.out, HO5.out, HX5.out, ?_⟩
                            rw [← HSI.out, HDQ.out]
                            simp [sideIns, HST.out]
                          case measure => simp [intOf]; omega
                      by_cases n7 : ii.f0 = 7
                      · have HK13 := Lib.hid n7
                        have e13 : (ii.f0 == 13) = false := by simpa using n13
                        have e14 : (ii.f0 == 14) = false := by simpa using n14
                        have e7 : (ii.f0 == 7) = true := by simpa using n7
                        clear n13 n14 n7
                        cases sv with
                        | false =>
                          have HST := Lib.hid (show sideStep ii false = (true, false) from by simp [sideStep, HK13.out])
                          have HS := Lib.hid (show faultS xs sites words bs = (m, q, true) from by
                            rw [FS.out, HSD.out, side_one HNO2.out]
                            rw [show sideIns bk.f0 0 (rdOf false (sidesOf bs).1 m) = .inl q from by rw [← HSI.out, HDQ.out]; simp [sideIns, HST.out]])
                          have HR7 := Lib.hid (spot_ret (n := m) (k := q) HF5.out.r)
                          have HG7 := Lib.hid (grown_set (grown_set HF5.out.g (p := ⟨w.heap.size, 0, none⟩) (Nat.le_refl _) (.int .i64 m)) (p := ⟨w.heap.size, 1, none⟩) (Nat.le_refl _) (.int .i64 q))
                          go_wp2
                          generalize ((wr.alloc (.cells #[.int .u8 ii.f0, .int .u8 ii.f1, .int .i64 ii.f2, .int .i64 ii.f3, .int .i64 ii.f4, .int .i64 ii.f5] 46)).setCell ⟨w.heap.size, 0, none⟩ (.int .i64 m)).setCell ⟨w.heap.size, 1, none⟩ (.int .i64 q) = w7 at *
                          have hr7 : w7.cell? ⟨w.heap.size, 0, none⟩ = some (.int .i64 m) := (blk_cell HR7.out 0).trans rfl
                          have hr8 : w7.cell? ⟨w.heap.size, 1, none⟩ = some (.int .i64 q) := (blk_cell HR7.out 1).trans rfl
                          refine bodyPost_ret (v := .tuple #[.agg #[.int .i64 m, .int .i64 q], .bool true]) (by simp [results, Try.results95, go_sem, hr7, hr8]) rfl ⟨?_, HG7.out⟩
                          rw [HS.out]
                        | true =>
                          have HST := Lib.hid (show sideStep ii true = (false, true) from by simp [sideStep, HK13.out])
                          go_wp2
                          go_roundw
                          case rel =>
                            refine ⟨q + 1, _, by omega, by go_num, rfl, HF5.out, HI5.out, HO5.out, HX5.out, ?_⟩
                            rw [← HSI.out, HDQ.out]
                            simp [sideIns, HST.out]
                          case measure => simp [intOf]; omega
                      by_cases n8 : ii.f0 = 8
                      · have HK13 := Lib.hid n8
                        have e13 : (ii.f0 == 13) = false := by simpa using n13
                        have e14 : (ii.f0 == 14) = false := by simpa using n14
                        have e7 : (ii.f0 == 7) = false := by simpa using n7
                        have e8 : (ii.f0 == 8) = true := by simpa using n8
                        clear n13 n14 n7 n8
                        cases sv with
                        | false =>
                          have HST := Lib.hid (show sideStep ii false = (true, false) from by simp [sideStep, HK13.out])
                          have HS := Lib.hid (show faultS xs sites words bs = (m, q, true) from by
                            rw [FS.out, HSD.out, side_one HNO2.out]
                            rw [show sideIns bk.f0 0 (rdOf false (sidesOf bs).1 m) = .inl q from by rw [← HSI.out, HDQ.out]; simp [sideIns, HST.out]])
                          have HR7 := Lib.hid (spot_ret (n := m) (k := q) HF5.out.r)
                          have HG7 := Lib.hid (grown_set (grown_set HF5.out.g (p := ⟨w.heap.size, 0, none⟩) (Nat.le_refl _) (.int .i64 m)) (p := ⟨w.heap.size, 1, none⟩) (Nat.le_refl _) (.int .i64 q))
                          go_wp2
                          generalize ((wr.alloc (.cells #[.int .u8 ii.f0, .int .u8 ii.f1, .int .i64 ii.f2, .int .i64 ii.f3, .int .i64 ii.f4, .int .i64 ii.f5] 46)).setCell ⟨w.heap.size, 0, none⟩ (.int .i64 m)).setCell ⟨w.heap.size, 1, none⟩ (.int .i64 q) = w7 at *
                          have hr7 : w7.cell? ⟨w.heap.size, 0, none⟩ = some (.int .i64 m) := (blk_cell HR7.out 0).trans rfl
                          have hr8 : w7.cell? ⟨w.heap.size, 1, none⟩ = some (.int .i64 q) := (blk_cell HR7.out 1).trans rfl
                          refine bodyPost_ret (v := .tuple #[.agg #[.int .i64 m, .int .i64 q], .bool true]) (by simp [results, Try.results95, go_sem, hr7, hr8]) rfl ⟨?_, HG7.out⟩
                          rw [HS.out]
                        | true =>
                          have HST := Lib.hid (show sideStep ii true = (false, true) from by simp [sideStep, HK13.out])
                          go_wp2
                          go_roundw
                          case rel =>
                            refine ⟨q + 1, _, by omega, by go_num, rfl, HF5.out, HI5.out, HO5.out, HX5.out, ?_⟩
                            rw [← HSI.out, HDQ.out]
                            simp [sideIns, HST.out]
                          case measure => simp [intOf]; omega
                      by_cases n9 : ii.f0 = 9
                      · have HK13 := Lib.hid n9
                        have e13 : (ii.f0 == 13) = false := by simpa using n13
                        have e14 : (ii.f0 == 14) = false := by simpa using n14
                        have e7 : (ii.f0 == 7) = false := by simpa using n7
                        have e8 : (ii.f0 == 8) = false := by simpa using n8
                        have e9 : (ii.f0 == 9) = true := by simpa using n9
                        clear n13 n14 n7 n8 n9
                        cases sv with
                        | false =>
                          have HST := Lib.hid (show sideStep ii false = (true, false) from by simp [sideStep, HK13.out])
                          have HS := Lib.hid (show faultS xs sites words bs = (m, q, true) from by
                            rw [FS.out, HSD.out, side_one HNO2.out]
                            rw [show sideIns bk.f0 0 (rdOf false (sidesOf bs).1 m) = .inl q from by rw [← HSI.out, HDQ.out]; simp [sideIns, HST.out]])
                          have HR7 := Lib.hid (spot_ret (n := m) (k := q) HF5.out.r)
                          have HG7 := Lib.hid (grown_set (grown_set HF5.out.g (p := ⟨w.heap.size, 0, none⟩) (Nat.le_refl _) (.int .i64 m)) (p := ⟨w.heap.size, 1, none⟩) (Nat.le_refl _) (.int .i64 q))
                          go_wp2
                          generalize ((wr.alloc (.cells #[.int .u8 ii.f0, .int .u8 ii.f1, .int .i64 ii.f2, .int .i64 ii.f3, .int .i64 ii.f4, .int .i64 ii.f5] 46)).setCell ⟨w.heap.size, 0, none⟩ (.int .i64 m)).setCell ⟨w.heap.size, 1, none⟩ (.int .i64 q) = w7 at *
                          have hr7 : w7.cell? ⟨w.heap.size, 0, none⟩ = some (.int .i64 m) := (blk_cell HR7.out 0).trans rfl
                          have hr8 : w7.cell? ⟨w.heap.size, 1, none⟩ = some (.int .i64 q) := (blk_cell HR7.out 1).trans rfl
                          refine bodyPost_ret (v := .tuple #[.agg #[.int .i64 m, .int .i64 q], .bool true]) (by simp [results, Try.results95, go_sem, hr7, hr8]) rfl ⟨?_, HG7.out⟩
                          rw [HS.out]
                        | true =>
                          have HST := Lib.hid (show sideStep ii true = (false, true) from by simp [sideStep, HK13.out])
                          go_wp2
                          go_roundw
                          case rel =>
                            refine ⟨q + 1, _, by omega, by go_num, rfl, HF5.out, HI5.out, HO5.out, HX5.out, ?_⟩
                            rw [← HSI.out, HDQ.out]
                            simp [sideIns, HST.out]
                          case measure => simp [intOf]; omega
                      by_cases n10 : ii.f0 = 10
                      · have HK13 := Lib.hid n10
                        have e13 : (ii.f0 == 13) = false := by simpa using n13
                        have e14 : (ii.f0 == 14) = false := by simpa using n14
                        have e7 : (ii.f0 == 7) = false := by simpa using n7
                        have e8 : (ii.f0 == 8) = false := by simpa using n8
                        have e9 : (ii.f0 == 9) = false := by simpa using n9
                        have e10 : (ii.f0 == 10) = true := by simpa using n10
                        clear n13 n14 n7 n8 n9 n10
                        cases sv with
                        | false =>
                          have HST := Lib.hid (show sideStep ii false = (true, false) from by simp [sideStep, HK13.out])
                          have HS := Lib.hid (show faultS xs sites words bs = (m, q, true) from by
                            rw [FS.out, HSD.out, side_one HNO2.out]
                            rw [show sideIns bk.f0 0 (rdOf false (sidesOf bs).1 m) = .inl q from by rw [← HSI.out, HDQ.out]; simp [sideIns, HST.out]])
                          have HR7 := Lib.hid (spot_ret (n := m) (k := q) HF5.out.r)
                          have HG7 := Lib.hid (grown_set (grown_set HF5.out.g (p := ⟨w.heap.size, 0, none⟩) (Nat.le_refl _) (.int .i64 m)) (p := ⟨w.heap.size, 1, none⟩) (Nat.le_refl _) (.int .i64 q))
                          go_wp2
                          generalize ((wr.alloc (.cells #[.int .u8 ii.f0, .int .u8 ii.f1, .int .i64 ii.f2, .int .i64 ii.f3, .int .i64 ii.f4, .int .i64 ii.f5] 46)).setCell ⟨w.heap.size, 0, none⟩ (.int .i64 m)).setCell ⟨w.heap.size, 1, none⟩ (.int .i64 q) = w7 at *
                          have hr7 : w7.cell? ⟨w.heap.size, 0, none⟩ = some (.int .i64 m) := (blk_cell HR7.out 0).trans rfl
                          have hr8 : w7.cell? ⟨w.heap.size, 1, none⟩ = some (.int .i64 q) := (blk_cell HR7.out 1).trans rfl
                          refine bodyPost_ret (v := .tuple #[.agg #[.int .i64 m, .int .i64 q], .bool true]) (by simp [results, Try.results95, go_sem, hr7, hr8]) rfl ⟨?_, HG7.out⟩
                          rw [HS.out]
                        | true =>
                          have HST := Lib.hid (show sideStep ii true = (false, true) from by simp [sideStep, HK13.out])
                          go_wp2
                          go_roundw
                          case rel =>
                            refine ⟨q + 1, _, by omega, by go_num, rfl, HF5.out, HI5.out, HO5.out, HX5.out, ?_⟩
                            rw [← HSI.out, HDQ.out]
                            simp [sideIns, HST.out]
                          case measure => simp [intOf]; omega
                      by_cases n11 : ii.f0 = 11
                      · have HK13 := Lib.hid n11
                        have e13 : (ii.f0 == 13) = false := by simpa using n13
                        have e14 : (ii.f0 == 14) = false := by simpa using n14
                        have e7 : (ii.f0 == 7) = false := by simpa using n7
                        have e8 : (ii.f0 == 8) = false := by simpa using n8
                        have e9 : (ii.f0 == 9) = false := by simpa using n9
                        have e10 : (ii.f0 == 10) = false := by simpa using n10
                        have e11 : (ii.f0 == 11) = true := by simpa using n11
                        clear n13 n14 n7 n8 n9 n10 n11
                        cases sv with
                        | false =>
                          have HST := Lib.hid (show sideStep ii false = (true, false) from by simp [sideStep, HK13.out])
                          have HS := Lib.hid (show faultS xs sites words bs = (m, q, true) from by
                            rw [FS.out, HSD.out, side_one HNO2.out]
                            rw [show sideIns bk.f0 0 (rdOf false (sidesOf bs).1 m) = .inl q from by rw [← HSI.out, HDQ.out]; simp [sideIns, HST.out]])
                          have HR7 := Lib.hid (spot_ret (n := m) (k := q) HF5.out.r)
                          have HG7 := Lib.hid (grown_set (grown_set HF5.out.g (p := ⟨w.heap.size, 0, none⟩) (Nat.le_refl _) (.int .i64 m)) (p := ⟨w.heap.size, 1, none⟩) (Nat.le_refl _) (.int .i64 q))
                          go_wp2
                          generalize ((wr.alloc (.cells #[.int .u8 ii.f0, .int .u8 ii.f1, .int .i64 ii.f2, .int .i64 ii.f3, .int .i64 ii.f4, .int .i64 ii.f5] 46)).setCell ⟨w.heap.size, 0, none⟩ (.int .i64 m)).setCell ⟨w.heap.size, 1, none⟩ (.int .i64 q) = w7 at *
                          have hr7 : w7.cell? ⟨w.heap.size, 0, none⟩ = some (.int .i64 m) := (blk_cell HR7.out 0).trans rfl
                          have hr8 : w7.cell? ⟨w.heap.size, 1, none⟩ = some (.int .i64 q) := (blk_cell HR7.out 1).trans rfl
                          refine bodyPost_ret (v := .tuple #[.agg #[.int .i64 m, .int .i64 q], .bool true]) (by simp [results, Try.results95, go_sem, hr7, hr8]) rfl ⟨?_, HG7.out⟩
                          rw [HS.out]
                        | true =>
                          have HST := Lib.hid (show sideStep ii true = (false, true) from by simp [sideStep, HK13.out])
                          go_wp2
                          go_roundw
                          case rel =>
                            refine ⟨q + 1, _, by omega, by go_num, rfl, HF5.out, HI5.out, HO5.out, HX5.out, ?_⟩
                            rw [← HSI.out, HDQ.out]
                            simp [sideIns, HST.out]
                          case measure => simp [intOf]; omega
                      have HK13 := Lib.hid (show ii.f0 ≠ 13 ∧ ii.f0 ≠ 14 ∧ ii.f0 ≠ 7 ∧ ii.f0 ≠ 8 ∧ ii.f0 ≠ 9 ∧ ii.f0 ≠ 10 ∧ ii.f0 ≠ 11 from ⟨n13, n14, n7, n8, n9, n10, n11⟩)
                      have e13 : (ii.f0 == 13) = false := by simpa using n13
                      have e14 : (ii.f0 == 14) = false := by simpa using n14
                      have e7 : (ii.f0 == 7) = false := by simpa using n7
                      have e8 : (ii.f0 == 8) = false := by simpa using n8
                      have e9 : (ii.f0 == 9) = false := by simpa using n9
                      have e10 : (ii.f0 == 10) = false := by simpa using n10
                      have e11 : (ii.f0 == 11) = false := by simpa using n11
                      clear n13 n14 n7 n8 n9 n10 n11
                      cases sv with
                      | false =>
                        have HST := Lib.hid (show sideStep ii false = (false, false) from by simp [sideStep, HK13.out])
                        go_wp2
                        go_roundw
                        case rel =>
                          refine ⟨q + 1, _, by omega, by go_num, rfl, HF5.out, HI5.out, HO5.out, HX5.out, ?_⟩
                          rw [← HSI.out, HDQ.out]
                          simp [sideIns, HST.out]
                        case measure => simp [intOf]; omega
                      | true =>
                        have HST := Lib.hid (show sideStep ii true = (false, true) from by simp [sideStep, HK13.out])
                        go_wp2
                        go_roundw
                        case rel =>
                          refine ⟨q + 1, _, by omega, by go_num, rfl, HF5.out, HI5.out, HO5.out, HX5.out, ?_⟩
                          rw [← HSI.out, HDQ.out]
                          simp [sideIns, HST.out]
                        case measure => simp [intOf]; omega
                    · have hqe : q = bk.f0.length := by omega
                      subst hqe
                      obtain ⟨h0, h1, h2, h3, h4⟩ := cells5 HX2.out
                      have HIS := Lib.hid (show sideIns bk.f0 0 (rdOf false (sidesOf bs).1 m) = .inr sv from by rw [← HSI.out, List.drop_length]; rfl)
                      have hr0 : wr.cell? ⟨w.heap.size, 0, none⟩ = some (.int .i64 0) := (blk_cell HF2.out.r 0).trans rfl
                      have hr1 : wr.cell? ⟨w.heap.size, 1, none⟩ = some (.int .i64 0) := (blk_cell HF2.out.r 1).trans rfl
                      have hf0 := blk_frozen HF2.out.r 0
                      have hf1 := blk_frozen HF2.out.r 1
                      by_cases hend : sv = true ∧ bk.f1 = 3
                      · have HS := Lib.hid (show faultS xs sites words bs = (m, bk.f0.length, true) from by
                          rw [FS.out, HSD.out, side_one HNO2.out, HIS.out]
                          simp [hend.1, hend.2])
                        have he3 : (bk.f1 == 3) = true := by simpa using hend.2
                        obtain ⟨rfl, _⟩ := hend
                        have HR7 := Lib.hid (spot_ret (n := m) (k := bk.f0.length) HF2.out.r)
                        have HG7 := Lib.hid (grown_set (grown_set HF2.out.g (p := ⟨w.heap.size, 0, none⟩) (Nat.le_refl _) (.int .i64 m)) (p := ⟨w.heap.size, 1, none⟩) (Nat.le_refl _) (.int .i64 bk.f0.length))
                        go_wp2
                        generalize (wr.setCell ⟨w.heap.size, 0, none⟩ (.int .i64 m)).setCell ⟨w.heap.size, 1, none⟩ (.int .i64 bk.f0.length) = w7 at *
                        have hr7 : w7.cell? ⟨w.heap.size, 0, none⟩ = some (.int .i64 m) := (blk_cell HR7.out 0).trans rfl
                        have hr8 : w7.cell? ⟨w.heap.size, 1, none⟩ = some (.int .i64 bk.f0.length) := (blk_cell HR7.out 1).trans rfl
                        refine bodyPost_ret (v := .tuple #[.agg #[.int .i64 m, .int .i64 bk.f0.length], .bool true]) (by simp [results, Try.results95, go_sem, hr7, hr8]) rfl ⟨?_, HG7.out⟩
                        rw [HS.out]
                      · have HGO := Lib.hid (show sideScan (sidesOf bs).1 (sidesOf bs).2 (bs.drop (m + 1)) (m + 1) = sideScan (sidesOf bs).1 (sidesOf bs).2 bs 0 from by
                          rw [HSD.out, side_one HNO2.out, HIS.out]
                          dsimp only
                          rw [if_neg]
                          intro h
                          rw [Bool.and_eq_true] at h
                          exact hend ⟨h.1, by simpa using h.2⟩)
                        cases sv
                        · clear hend
                          go_wp2
                          go_roundw
                          case rel => exact ⟨m + 1, by omega, by go_num, HF2.out, HI2.out, HO2.out, HGO.out⟩
                          case measure => simp [intOf]; omega
                        · have he3 : (bk.f1 == 3) = false := by
                            cases h : (bk.f1 == 3)
                            · rfl
                            · exact absurd ⟨rfl, by simpa using h⟩ hend
                          clear hend
                          go_wp2
                          go_roundw
                          case rel => exact ⟨m + 1, by omega, by go_num, HF2.out, HI2.out, HO2.out, HGO.out⟩
                          case measure => simp [intOf]; omega
            · have hme : m = bs.length := by omega
              subst hme
              have HS := Lib.hid (show faultS xs sites words bs = (0, 0, false) from by
                rw [FS.out, ← HSC.out, List.drop_length]; rfl)
              have hr0 : wr.cell? ⟨w.heap.size, 0, none⟩ = some (.int .i64 0) := (blk_cell HF5.out.r 0).trans rfl
              have hr1 : wr.cell? ⟨w.heap.size, 1, none⟩ = some (.int .i64 0) := (blk_cell HF5.out.r 1).trans rfl
              have hf0 := blk_frozen HF5.out.r 0
              have hf1 := blk_frozen HF5.out.r 1
              have HR7 := Lib.hid (spot_ret (n := 0) (k := 0) HF5.out.r)
              have HG7 := Lib.hid (grown_set (grown_set HF5.out.g (p := ⟨w.heap.size, 0, none⟩) (Nat.le_refl _) (.int .i64 0)) (p := ⟨w.heap.size, 1, none⟩) (Nat.le_refl _) (.int .i64 0))
              go_wp2
              generalize (wr.setCell ⟨w.heap.size, 0, none⟩ (.int .i64 0)).setCell ⟨w.heap.size, 1, none⟩ (.int .i64 0) = w7 at *
              have hr7 : w7.cell? ⟨w.heap.size, 0, none⟩ = some (.int .i64 0) := (blk_cell HR7.out 0).trans rfl
              have hr8 : w7.cell? ⟨w.heap.size, 1, none⟩ = some (.int .i64 0) := (blk_cell HR7.out 1).trans rfl
              refine bodyPost_ret (v := .tuple #[.agg #[.int .i64 0, .int .i64 0], .bool false]) (by simp [results, Try.results95, go_sem, hr7, hr8]) rfl ⟨?_, HG7.out⟩
              rw [HS.out]; rfl
end Go.Proofs.Ytjmeignhhheckaa.H

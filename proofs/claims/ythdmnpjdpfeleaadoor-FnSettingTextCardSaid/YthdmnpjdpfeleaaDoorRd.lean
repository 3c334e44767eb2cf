/- The reader of drawn numbers: what it is in memory, and the walk of pick. Conditions: a reader at fewer than 10000000 picks. -/
import Derived.Test.YthdmnpjdpfeleaaDoorBytes
import Derived.Test.YthdmnpjdpfeleaaDoorRows
import Derived.Deep.QuietTactic
import Derived.BigQuiet
import Derived.Deep.RegionHeld3
import Derived.Lib.Hide
namespace Go.Proofs.YthdmnpjdpfeleaaDoor
open Go.RowKit

/-- A slice of bytes below block B, whatever they are. -/
def Src (w : World) (B : Nat) (A : Option Addr) (n : Nat) : Prop := 0 < n → ∃ b off, A = some ⟨b, off, none⟩ ∧ b < B ∧ ∀ k, k < n → ∃ x : Int, 0 ≤ x ∧ x ≤ 255 ∧ w.cell? ⟨b, off + k, none⟩ = some (.int .u8 x)
/-- Block g is a reader over a slice below block B, after p picks. -/
def Rd (w : World) (B g p : Nat) : Prop := B ≤ g ∧ ∃ A n c, n ≤ 2000 ∧ Src w B A n ∧ w.heap[g]? = some (.cells #[.slice A n c, .int .i64 p] 56 (0, 0))

theorem Src.keep {w w' : World} {B n : Nat} {A : Option Addr} (h : Src w B A n) (hk : ∀ p : Addr, p.block < B → w'.cell? p = w.cell? p) : Src w' B A n := fun hn => by
  obtain ⟨b, off, rfl, hb, hc⟩ := h hn
  exact ⟨b, off, rfl, hb, fun k hk2 => by
    obtain ⟨x, h0, h1, hx⟩ := hc k hk2
    exact ⟨x, h0, h1, (hk _ hb).trans hx⟩⟩
theorem Rd.lt {w : World} {B g p : Nat} (h : Rd w B g p) : g < w.heap.size := by
  obtain ⟨_, A, n, c, _, _, hg⟩ := h
  exact Blk.lt (show Blk w g _ _ from hg)
/-- Whatever keeps the reader's block and what lies below B keeps the reader. -/
theorem Rd.keep {w w' : World} {B g p : Nat} (h : Rd w B g p) (hg : w'.heap[g]? = w.heap[g]?) (hk : ∀ k, k < B → w'.heap[k]? = w.heap[k]?) : Rd w' B g p := by
  obtain ⟨hb, A, n, c, hn, hs, hh⟩ := h
  exact ⟨hb, A, n, c, hn, hs.keep fun q hq => World.cell?_of_block (hk _ hq), hg.trans hh⟩
theorem Rd.below {w w' : World} {B g p : Nat} (h : Rd w B g p) (hb : Below w.heap.size w w') : Rd w' B g p := by
  have := h.lt
  exact h.keep (hb.block g h.lt) fun k hk => hb.block k (by have := h.1; omega)
/-- What a function that reads from the reader ends in: its block alone has turned, and what is new. -/
def RdPost (B g p d : Nat) (w w' : World) : Prop := (∃ p', p' ≤ p + d ∧ Rd w' B g p') ∧ w.grownBy w' (some g)

theorem wrap_bd' {n : Int} (h0 : -9223372036854775808 ≤ n) (h1 : n ≤ 9223372036854775807) : wrap64 n = n := IntWalk.wrap64_in _ ⟨h0, h1⟩
theorem xor_bd {a b : Nat} (ha : a < 1152921504606846976) (hb : b < 1152921504606846976) : a ^^^ b < 1152921504606846976 := Nat.xor_lt_two_pow (n := 60) ha hb

theorem Rd.step {w : World} {B g p : Nat} (h : Rd w B g p) : Rd (w.setCell ⟨g, 1, none⟩ (.int .i64 ((p : Int) + 1))) B g (p + 1) := by
  obtain ⟨hB, A, n, c, hn, hs, hg⟩ := h
  refine ⟨hB, A, n, c, hn, hs.keep fun q hq => World.cell?_setCell_other w ⟨g, 1, none⟩ q _ (fun e => by subst e; simp at hq; omega), ?_⟩
  exact Blk.set_ (show Blk w g _ _ from hg) 1 _
theorem grown_step (w : World) (g : Nat) (u : Value) : w.grownBy (w.setCell ⟨g, 1, none⟩ u) (some g) := only_setCell (World.grownBy.refl w _) (.inl rfl) u
theorem Rd.drewN {w : World} {B g p : Nat} (h : Rd w B g p) (n : Nat) : Rd (w.drewN n) B g p := h

/-- What pick ends in. -/
def PickPost (B g p : Nat) (n : Int) (w : World) (e : Ending) (w' : World) : Prop := ∃ v : Int, e = .returned (.int .i64 v) ∧ 0 ≤ v ∧ (1 ≤ n → v < n) ∧ (n < 1 → v = 0) ∧ Rd w' B g (p + 1) ∧ w.grownBy w' (some g)

set_option maxRecDepth 100000 in
set_option maxHeartbeats 1000000 in
theorem rd_pick (B g p : Nat) (n : Int) (w : World) (h : Rd w B g p) (hp : p ≤ 10000000) (hn : n ≤ 9223372036854775807) (hn0 : -9223372036854775808 ≤ n) :
    Calls Tryd.prog 24 #[.pointer (some ⟨g, 0, none⟩), .int .i64 n] w (PickPost B g p n w) := by
  obtain ⟨hB, A, m, c, hm, hs, hg⟩ := h
  have h0 : w.cell? ⟨g, 0, none⟩ = some (.slice A m c) := Blk.cell (show Blk w g _ _ from hg) 0
  have h1 : w.cell? ⟨g, 1, none⟩ = some (.int .i64 p) := Blk.cell (show Blk w g _ _ from hg) 1
  have f1 : w.frozen? ⟨g, 1, none⟩ = false := Blk.frozen (show Blk w g _ _ from hg) 1
  have HR := hide (Rd.step ⟨hB, A, m, c, hm, hs, hg⟩)
  by_cases c1 : n < 1
  · go_enter Tryd.func24, Tryd.ntmps24
    go_wp2_with fail
    go_ret
    exact ⟨0, rfl, Int.le_refl _, fun h => by omega, fun _ => rfl, HR.out, grown_step _ _ _⟩
  · by_cases c2 : m = 0
    · subst c2
      go_enter Tryd.func24, Tryd.ntmps24
      go_wp2_with fail
      go_ret
      exact ⟨0, rfl, Int.le_refl _, fun h => by omega, fun _ => rfl, HR.out, grown_step _ _ _⟩
    · obtain ⟨b, off, rfl, hb, hc⟩ := hs (by omega)
      have hne : b ≠ g := by omega
      have m0 : ((m : Int) == 0) = false := by simpa using c2
      by_cases c3 : p < m
      · obtain ⟨x, x0, x1, hx⟩ := hc p c3
        have hx' : (w.setCell ⟨g, 1, none⟩ (.int .i64 ((p : Int) + 1))).cell? ⟨b, off + p, none⟩ = some (.int .u8 x) :=
          (World.cell?_setCell_other w ⟨g, 1, none⟩ ⟨b, off + p, none⟩ _ (fun e => by injection e with e1; exact hne e1.symm)).trans hx
        clear hc hs
        go_enter Tryd.func24, Tryd.ntmps24
        go_wp2_with fail
        go_ret
        exact ⟨x % n, rfl, Int.emod_nonneg _ (by omega), fun _ => Int.emod_lt_of_pos _ (by omega), fun h => by omega, HR.out, grown_step _ _ _⟩
      · obtain ⟨x, x0, x1, hx⟩ := hc (p % m) (Nat.mod_lt _ (by omega))
        obtain ⟨y, y0, y1, hy⟩ := hc ((7 * p + 3) % m) (Nat.mod_lt _ (by omega))
        have o0 : ∀ q o, q ≠ g → (w.setCell ⟨g, 1, none⟩ (.int .i64 ((p : Int) + 1))).cell? ⟨q, o, none⟩ = w.cell? ⟨q, o, none⟩ := fun q o hq =>
          World.cell?_setCell_other w ⟨g, 1, none⟩ ⟨q, o, none⟩ _ (fun e => by injection e with e1; exact hq e1.symm)
        have s0 : (w.setCell ⟨g, 1, none⟩ (.int .i64 ((p : Int) + 1))).cell? ⟨g, 0, none⟩ = some (.slice (some ⟨b, off, none⟩) m c) :=
          (World.cell?_setCell_other w ⟨g, 1, none⟩ ⟨g, 0, none⟩ _ (fun e => by injection e with e1 e2; omega)).trans h0
        have sx := (o0 b (off + p % m) hne).trans hx
        have sy := (o0 b (off + (7 * p + 3) % m) hne).trans hy
        have HG := hide (grown_step w g (.int .i64 ((p : Int) + 1)))
        clear hc hs o0 hx hy
        go_enter Tryd.func24, Tryd.ntmps24
        go_wp2_with fail
        generalize w.setCell ⟨g, 1, none⟩ (.int .i64 ((p : Int) + 1)) = w2 at *
        clear h0 h1 f1 hg
        have mp : (0 : Int) < (m : Int) := by omega
        have p0 : (0 : Int) ≤ (p : Int) := Int.natCast_nonneg _
        have e1 : (p : Int).tmod (m : Int) = (p : Int) % (m : Int) := Int.tmod_eq_emod_of_nonneg p0
        have l1 : (0 : Int) ≤ (p : Int) % (m : Int) := Int.emod_nonneg _ (by omega)
        have l2 : (p : Int) % (m : Int) < (m : Int) := Int.emod_lt_of_pos _ mp
        have l3 : ((p : Int) % (m : Int)).toNat = p % m := by rw [← Int.natCast_emod, Int.toNat_natCast]
        have w1 : IntKind.i64.wrap ((p : Int) * 7) = 7 * (p : Int) := by rw [Int.mul_comm]; exact IntWalk.i64_in _ (by omega)
        have w1' : IntKind.i64.wrap (7 * (p : Int)) = 7 * (p : Int) := IntWalk.i64_in _ (by omega)
        have w2' : IntKind.i64.wrap (7 * (p : Int) + 3) = 7 * (p : Int) + 3 := IntWalk.i64_in _ (by omega)
        have e2 : (7 * (p : Int) + 3).tmod (m : Int) = (7 * (p : Int) + 3) % (m : Int) := Int.tmod_eq_emod_of_nonneg (by omega)
        have r1 : (0 : Int) ≤ (7 * (p : Int) + 3) % (m : Int) := Int.emod_nonneg _ (by omega)
        have r2 : (7 * (p : Int) + 3) % (m : Int) < (m : Int) := Int.emod_lt_of_pos _ mp
        have r3 : ((7 * (p : Int) + 3) % (m : Int)).toNat = (7 * p + 3) % m := by
          rw [show (7 * (p : Int) + 3) = ((7 * p + 3 : Nat) : Int) from by omega, ← Int.natCast_emod, Int.toNat_natCast]
        go_quiet (fail)
        clear w1 w1' w2' e1 e2 r3 l3
        have q0 : (0 : Int) ≤ (p : Int) / (m : Int) := Int.ediv_nonneg p0 (by omega)
        have q1 : (p : Int) / (m : Int) ≤ (p : Int) := Int.ediv_le_self _ p0
        have hV : ∃ N : Nat, N < 9000000000 ∧ wrap64 (x * 131 + y * 1117 + (p : Int) * 29 + wrap64 (wrap64 ((p : Int) / (m : Int)) * 53)) = (N : Int) := by
          generalize (p : Int) / (m : Int) = q at q0 q1
          rw [wrap_bd' (n := q) (by omega) (by omega), wrap_bd' (n := q * 53) (by omega) (by omega), wrap_bd' (by omega) (by omega)]
          obtain ⟨N, hN⟩ := Int.eq_ofNat_of_zero_le (show 0 ≤ x * 131 + y * 1117 + (p : Int) * 29 + q * 53 by omega)
          exact ⟨N, by omega, hN⟩
        obtain ⟨N, hN, hV⟩ := hV
        rw [hV]
        clear hV
        have hX := i64_xor_nat N (N / 64) (by omega) (by omega)
        rw [Int.natCast_ediv] at hX
        have hXb : N ^^^ (N / 64) < 1152921504606846976 := xor_bd (by omega) (by omega)
        generalize N ^^^ (N / 64) = Y at hX hXb
        have hX : bits .xor .i64 (N : Int) ((N : Int) / 64) = (Y : Int) := hX
        go_wp2
        go_ret
        exact ⟨(Y : Int) % n, rfl, Int.emod_nonneg _ (by omega), fun _ => Int.emod_lt_of_pos _ (by omega), fun h => by omega, HR.out.drewN _, only_drewN HG.out _⟩

/-- What a function that opens a reader ends in. -/
def OpenPost (w : World) (e : Ending) (w' : World) : Prop := ∃ g, e = .returned (.pointer (some ⟨g, 0, none⟩)) ∧ Rd w' w.heap.size g 0 ∧ Below w.heap.size w w'
theorem Src.less {w : World} {B n m : Nat} {A : Option Addr} (h : Src w B A n) (hm : m ≤ n) : Src w B A m := fun hm0 => by
  obtain ⟨b, off, rfl, hb, hc⟩ := h (by omega)
  exact ⟨b, off, rfl, hb, fun k hk => hc k (by omega)⟩
theorem rd_new {w : World} {A : Option Addr} {n c : Nat} (h : Src w w.heap.size A n) (hn : n ≤ 2000) : Rd (w.alloc (.cells #[.slice A n c, .int .i64 0] 56)) w.heap.size w.heap.size 0 :=
  ⟨Nat.le_refl _, A, n, c, hn, h.keep fun q hq => World.cell?_alloc_lt w _ q hq, heap_alloc_new w _⟩

set_option maxRecDepth 100000 in
set_option maxHeartbeats 1000000 in
theorem rd_open (A : Option Addr) (n c : Nat) (w : World) (h : Src w w.heap.size A n) (hn : n ≤ 1048576) (hc : n ≤ c) (hcm : c ≤ 9223372036854775807) :
    Calls Tryd.prog 22 #[.slice A n c] w (OpenPost w) := by
  by_cases h1 : n ≤ 2000
  · have HR := hide (rd_new (c := c) h h1)
    clear h
    go_enter Tryd.func22, Tryd.ntmps22
    go_wp2_with fail
    go_ret
    exact ⟨_, rfl, HR.out, (Below.refl _ _).alloc (Nat.le_refl _) _⟩
  · have HR := hide (rd_new (c := c) (h.less (m := 2000) (by omega)) (Nat.le_refl _))
    obtain ⟨b, off, rfl, _, _⟩ := h (by omega)
    clear h
    go_enter Tryd.func22, Tryd.ntmps22
    go_wp2_with fail
    go_ret
    exact ⟨_, rfl, HR.out, (Below.refl _ _).alloc (Nat.le_refl _) _⟩

/-- What num and of end in. -/
def NumPost (B g p : Nat) (Pr : Value → Prop) (w : World) (e : Ending) (w' : World) : Prop := ∃ v, e = .returned v ∧ Pr v ∧ Rd w' B g (p + 1) ∧ w.grownBy w' (some g)

set_option maxRecDepth 100000 in
set_option maxHeartbeats 1000000 in
theorem rd_num (B g p b m c : Nat) (Pr : Value → Prop) (w : World) (h : Rd w B g p) (hp : p ≤ 10000000) (hm : 1 ≤ m) (hm2 : m ≤ 1000) (hbg : b ≠ g)
    (hcell : ∀ i, i < m → ∃ x : Int, Pr (.int .i64 x) ∧ w.cell? ⟨b, i, none⟩ = some (.int .i64 x)) :
    Calls Tryd.prog 32 #[.pointer (some ⟨g, 0, none⟩), .slice (some ⟨b, 0, none⟩) m c] w (NumPost B g p Pr w) := by
  have HP := hide hcell
  clear hcell
  go_enter Tryd.func32, Tryd.ntmps32
  go_wp2_with fail
  refine (rd_pick B g p m w h hp (by omega) (by omega)).mono ?_
  rintro e w1 ⟨v, rfl, v0, v1, _, hr, hg⟩
  obtain ⟨V, rfl⟩ := Int.eq_ofNat_of_zero_le v0
  have v2 : V < m := by have := v1 (by omega); omega
  obtain ⟨x, px, hx⟩ := HP.out V v2
  have hx1 := hg.cell hx (by simpa using hbg)
  clear v1 hx
  go_wp2_with fail
  go_ret
  exact ⟨_, rfl, px, hr, hg⟩
end Go.Proofs.YthdmnpjdpfeleaaDoor

/- The walk of the exact law on After. Conditions: the pairs' cells lie below the call's own memory. -/
import Derived.Test.YtegfcpdkehgdpaaAf6
import Derived.Test.YtegfcpdkehgdpaaKM
namespace Go.Proofs.Ytegfcpdkehgdpaa
open Go.RowKit

theorem Sx.after_len (o l m : Int) (ps : List (Int × Int)) (b t x : Int) : (Sx.ifP (Sx.aftOK o l m ps b t x) (Sx.stepP l m ps b t x)).length ≤ 1024 := by
  cases h : Sx.aftOK o l m ps b t x
  · exact Nat.zero_le _
  · rw [Sx.aft_go, Bool.and_eq_true] at h
    exact (Sx.kOK_nums (Sx.step_ok h.1 h.2)).2.2.2.2.1
/-- What After answers, by what it answers in numbers. -/
def AftR (fn : Nat) (o2 l2 m2 b2 t2 x o l m b t : Int) (ps P2 : List (Int × Int)) (r2 : Bool) : Prop :=
  ∀ (A : Option Addr) (wx : World), PR wx wx.heap.size A ps → Calls Try.prog fn #[kv o l m A ps.length ps.length b t, .int .i64 x] wx fun e w' => ∃ A' c', e = .returned (.tuple #[kv o2 l2 m2 A' P2.length c' b2 t2, .bool r2]) ∧ OwnP w' wx.heap.size A' P2 ∧ Below wx.heap.size wx w'
theorem after_pair (o l m b t x : Int) (ps : List (Int × Int)) (hz : ps.length ≤ 1048576) : ∃ o2 l2 m2 b2 t2 P2 r2, AftR 15 o2 l2 m2 b2 t2 x o l m b t ps P2 r2 ∧ AftR 17 o2 l2 m2 b2 t2 x o l m b t ps P2 r2 ∧ P2.length ≤ 1048576 :=
  ⟨_, _, _, _, _, _, _, fun A wx h => (spec_After o l m A ps.length b t x ps wx h hz (Nat.le_refl _)).mono fun _ _ ⟨A', c', h1, h2, _, h4⟩ => ⟨A', c', h1, h2, h4⟩, fun A wx h => impl_After o l m A ps.length b t x ps wx h hz, by have := Sx.after_len o l m ps b t x; omega⟩

set_option maxRecDepth 100000 in
set_option maxHeartbeats 8000000 in
theorem law_FnExactAfter (o l m : Int) (A : Option Addr) (c : Nat) (b t : Int) (ps : List (Int × Int)) (x : Int) (_ : -9223372036854775808 ≤ x) (_ : x ≤ 9223372036854775807) (w : World) (hr : PR w w.heap.size A ps) (hz : ps.length ≤ maxLen) :
    Calls Try.prog 3 #[kv o l m A ps.length c b t, .int .i64 x] w fun e w' => e = .returned (.bool true) ∧ Below w.heap.size w w' := by
  unfold maxLen at hz
  have B0 : Below w.heap.size w (w.alloc (.cells #[.int .i64 o, .int .i64 l, .int .i64 m, .slice A ps.length c, .int .i64 b, .int .i64 t] 26)) := (Below.refl _ _).alloc (Nat.le_refl _) _
  by_cases hn : ps.length ≤ 1048576
  · have CZ := hide (fun wx => by have := laws_szKnown o l m A ps.length c b t wx (by omega); rwa [if_pos hn] at this)
    have L0 := Blk.new w 26 #[.int .i64 o, .int .i64 l, .int .i64 m, .slice A ps.length c, .int .i64 b, .int .i64 t]
    have sw : (w.alloc (.cells #[.int .i64 o, .int .i64 l, .int .i64 m, .slice A ps.length c, .int .i64 b, .int .i64 t] 26)).heap.size = w.heap.size + 1 := World.size_alloc _ _
    obtain ⟨o2, l2, m2, b2, t2, P2, r2, CS, CI, hP2⟩ := after_pair o l m b t x ps hn
    have CS := hide CS
    have CI := hide CI
    have n0 : ¬ 1048576 - (ps.length : Int) < 0 := by omega
    have n1 : ¬ 1 + 2 * (ps.length : Int) < 0 := by omega
    have n2 : ¬ 1 + 2 * (P2.length : Int) < 0 := by omega
    go_enter Try.func3, Try.ntmps3
    have Lc0 : (w.alloc (.cells #[.int .i64 o, .int .i64 l, .int .i64 m, .slice A ps.length c, .int .i64 b, .int .i64 t] 26)).cell? ⟨w.heap.size, 0, none⟩ = some (.int .i64 o) := L0.cell 0
    have Lc1 : (w.alloc (.cells #[.int .i64 o, .int .i64 l, .int .i64 m, .slice A ps.length c, .int .i64 b, .int .i64 t] 26)).cell? ⟨w.heap.size, 1, none⟩ = some (.int .i64 l) := L0.cell 1
    have Lc2 : (w.alloc (.cells #[.int .i64 o, .int .i64 l, .int .i64 m, .slice A ps.length c, .int .i64 b, .int .i64 t] 26)).cell? ⟨w.heap.size, 2, none⟩ = some (.int .i64 m) := L0.cell 2
    have Lc3 : (w.alloc (.cells #[.int .i64 o, .int .i64 l, .int .i64 m, .slice A ps.length c, .int .i64 b, .int .i64 t] 26)).cell? ⟨w.heap.size, 3, none⟩ = some (.slice A ps.length c) := L0.cell 3
    have Lc4 : (w.alloc (.cells #[.int .i64 o, .int .i64 l, .int .i64 m, .slice A ps.length c, .int .i64 b, .int .i64 t] 26)).cell? ⟨w.heap.size, 4, none⟩ = some (.int .i64 b) := L0.cell 4
    have Lc5 : (w.alloc (.cells #[.int .i64 o, .int .i64 l, .int .i64 m, .slice A ps.length c, .int .i64 b, .int .i64 t] 26)).cell? ⟨w.heap.size, 5, none⟩ = some (.int .i64 t) := L0.cell 5
    go_wp2_with fail
    refine ((unhide CZ) _).mono ?_; rintro e w1 ⟨rfl, hb⟩
    have s1 : (w.alloc (.cells #[.int .i64 o, .int .i64 l, .int .i64 m, .slice A ps.length c, .int .i64 b, .int .i64 t] 26)).heap.size ≤ w1.heap.size := Below.size hb
    have B1 := below_next (Nat.le_refl _) B0 hb
    have L1 := L0.below hb L0.lt
    clear B0 L0 Lc0 Lc1 Lc2 Lc3 Lc4 Lc5 hb
    have Lc0 : w1.cell? ⟨w.heap.size, 0, none⟩ = some (.int .i64 o) := L1.cell 0
    have Lc1 : w1.cell? ⟨w.heap.size, 1, none⟩ = some (.int .i64 l) := L1.cell 1
    have Lc2 : w1.cell? ⟨w.heap.size, 2, none⟩ = some (.int .i64 m) := L1.cell 2
    have Lc3 : w1.cell? ⟨w.heap.size, 3, none⟩ = some (.slice A ps.length c) := L1.cell 3
    have Lc4 : w1.cell? ⟨w.heap.size, 4, none⟩ = some (.int .i64 b) := L1.cell 4
    have Lc5 : w1.cell? ⟨w.heap.size, 5, none⟩ = some (.int .i64 t) := L1.cell 5
    go_wp2_with fail
    refine (laws_toKnown o l m A c b t ps _ (hr.keep B1.size B1) hn).mono ?_; rintro e w2 ⟨g1, rfl, hg1, hQ1, hb⟩
    have s2 : w1.heap.size ≤ w2.heap.size := Below.size hb
    have B2 := below_next (Nat.le_refl _) B1 hb
    have L2 := L1.below hb L1.lt
    clear B1 L1 Lc0 Lc1 Lc2 Lc3 Lc4 Lc5 hb
    go_wp2_with fail
    refine ((unhide CS) _ _ (PR.of_blk hQ1 hQ1.lt)).mono ?_; rintro e w3 ⟨A3, c3, rfl, O3, hb⟩
    have s3 : w2.heap.size ≤ w3.heap.size := Below.size hb
    have B3 := below_next (Nat.le_refl _) B2 hb
    have L3 := L2.below hb L2.lt
    clear B2 L2 hb hQ1 hg1
    have Wr3 := OwnV.pairs O3
    clear O3
    have s4 : (w3.alloc (.cells #[.int .i64 o2, .int .i64 l2, .int .i64 m2, .slice A3 P2.length c3, .int .i64 b2, .int .i64 t2] 31)).heap.size = w3.heap.size + 1 := World.size_alloc _ _
    have B4 := B3.alloc B3.size (.cells #[.int .i64 o2, .int .i64 l2, .int .i64 m2, .slice A3 P2.length c3, .int .i64 b2, .int .i64 t2] 31)
    have L4 := L3.alloc (.cells #[.int .i64 o2, .int .i64 l2, .int .i64 m2, .slice A3 P2.length c3, .int .i64 b2, .int .i64 t2] 31)
    have Wr4 := Wr3.alloc (.cells #[.int .i64 o2, .int .i64 l2, .int .i64 m2, .slice A3 P2.length c3, .int .i64 b2, .int .i64 t2] 31)
    have Wb4 := Blk.new w3 31 #[.int .i64 o2, .int .i64 l2, .int .i64 m2, .slice A3 P2.length c3, .int .i64 b2, .int .i64 t2]
    clear B3 L3 Wr3
    have Lc0 : (w3.alloc (.cells #[.int .i64 o2, .int .i64 l2, .int .i64 m2, .slice A3 P2.length c3, .int .i64 b2, .int .i64 t2] 31)).cell? ⟨w.heap.size, 0, none⟩ = some (.int .i64 o) := L4.cell 0
    have Lc1 : (w3.alloc (.cells #[.int .i64 o2, .int .i64 l2, .int .i64 m2, .slice A3 P2.length c3, .int .i64 b2, .int .i64 t2] 31)).cell? ⟨w.heap.size, 1, none⟩ = some (.int .i64 l) := L4.cell 1
    have Lc2 : (w3.alloc (.cells #[.int .i64 o2, .int .i64 l2, .int .i64 m2, .slice A3 P2.length c3, .int .i64 b2, .int .i64 t2] 31)).cell? ⟨w.heap.size, 2, none⟩ = some (.int .i64 m) := L4.cell 2
    have Lc3 : (w3.alloc (.cells #[.int .i64 o2, .int .i64 l2, .int .i64 m2, .slice A3 P2.length c3, .int .i64 b2, .int .i64 t2] 31)).cell? ⟨w.heap.size, 3, none⟩ = some (.slice A ps.length c) := L4.cell 3
    have Lc4 : (w3.alloc (.cells #[.int .i64 o2, .int .i64 l2, .int .i64 m2, .slice A3 P2.length c3, .int .i64 b2, .int .i64 t2] 31)).cell? ⟨w.heap.size, 4, none⟩ = some (.int .i64 b) := L4.cell 4
    have Lc5 : (w3.alloc (.cells #[.int .i64 o2, .int .i64 l2, .int .i64 m2, .slice A3 P2.length c3, .int .i64 b2, .int .i64 t2] 31)).cell? ⟨w.heap.size, 5, none⟩ = some (.int .i64 t) := L4.cell 5
    have Wbc0 : (w3.alloc (.cells #[.int .i64 o2, .int .i64 l2, .int .i64 m2, .slice A3 P2.length c3, .int .i64 b2, .int .i64 t2] 31)).cell? ⟨w3.heap.size, 0, none⟩ = some (.int .i64 o2) := Wb4.cell 0
    have Wbc1 : (w3.alloc (.cells #[.int .i64 o2, .int .i64 l2, .int .i64 m2, .slice A3 P2.length c3, .int .i64 b2, .int .i64 t2] 31)).cell? ⟨w3.heap.size, 1, none⟩ = some (.int .i64 l2) := Wb4.cell 1
    have Wbc2 : (w3.alloc (.cells #[.int .i64 o2, .int .i64 l2, .int .i64 m2, .slice A3 P2.length c3, .int .i64 b2, .int .i64 t2] 31)).cell? ⟨w3.heap.size, 2, none⟩ = some (.int .i64 m2) := Wb4.cell 2
    have Wbc3 : (w3.alloc (.cells #[.int .i64 o2, .int .i64 l2, .int .i64 m2, .slice A3 P2.length c3, .int .i64 b2, .int .i64 t2] 31)).cell? ⟨w3.heap.size, 3, none⟩ = some (.slice A3 P2.length c3) := Wb4.cell 3
    have Wbc4 : (w3.alloc (.cells #[.int .i64 o2, .int .i64 l2, .int .i64 m2, .slice A3 P2.length c3, .int .i64 b2, .int .i64 t2] 31)).cell? ⟨w3.heap.size, 4, none⟩ = some (.int .i64 b2) := Wb4.cell 4
    have Wbc5 : (w3.alloc (.cells #[.int .i64 o2, .int .i64 l2, .int .i64 m2, .slice A3 P2.length c3, .int .i64 b2, .int .i64 t2] 31)).cell? ⟨w3.heap.size, 5, none⟩ = some (.int .i64 t2) := Wb4.cell 5
    go_wp2_with fail
    refine (laws_toKnown o l m A c b t ps _ (hr.keep B4.size B4) hn).mono ?_; rintro e w4 ⟨g5, rfl, hg5, hQ5, hb⟩
    have s5 : (w3.alloc (.cells #[.int .i64 o2, .int .i64 l2, .int .i64 m2, .slice A3 P2.length c3, .int .i64 b2, .int .i64 t2] 31)).heap.size ≤ w4.heap.size := Below.size hb
    have B5 := below_next (Nat.le_refl _) B4 hb
    have L5 := L4.below hb L4.lt
    have Wb5 := Wb4.below hb Wb4.lt
    have Wr5 := Wr4.below hb
    clear B4 L4 Wb4 Wr4 Lc0 Lc1 Lc2 Lc3 Lc4 Lc5 Wbc0 Wbc1 Wbc2 Wbc3 Wbc4 Wbc5 hb
    have Xr5 := OwnV.of_blk hQ5 hg5 hQ5.lt
    clear hg5 hQ5
    have s6 : (w4.alloc (.cells #[.int .i64 o, .int .i64 l, .int .i64 m, .slice (some ⟨g5, 0, none⟩) ps.length ps.length, .int .i64 b, .int .i64 t] 31)).heap.size = w4.heap.size + 1 := World.size_alloc _ _
    have B6 := B5.alloc B5.size (.cells #[.int .i64 o, .int .i64 l, .int .i64 m, .slice (some ⟨g5, 0, none⟩) ps.length ps.length, .int .i64 b, .int .i64 t] 31)
    have L6 := L5.alloc (.cells #[.int .i64 o, .int .i64 l, .int .i64 m, .slice (some ⟨g5, 0, none⟩) ps.length ps.length, .int .i64 b, .int .i64 t] 31)
    have Wb6 := Wb5.alloc (.cells #[.int .i64 o, .int .i64 l, .int .i64 m, .slice (some ⟨g5, 0, none⟩) ps.length ps.length, .int .i64 b, .int .i64 t] 31)
    have Wr6 := Wr5.alloc (.cells #[.int .i64 o, .int .i64 l, .int .i64 m, .slice (some ⟨g5, 0, none⟩) ps.length ps.length, .int .i64 b, .int .i64 t] 31)
    have Xr6 := Xr5.alloc (.cells #[.int .i64 o, .int .i64 l, .int .i64 m, .slice (some ⟨g5, 0, none⟩) ps.length ps.length, .int .i64 b, .int .i64 t] 31)
    have Xb6 := Blk.new w4 31 #[.int .i64 o, .int .i64 l, .int .i64 m, .slice (some ⟨g5, 0, none⟩) ps.length ps.length, .int .i64 b, .int .i64 t]
    clear B5 L5 Wb5 Wr5 Xr5
    have Lc0 : (w4.alloc (.cells #[.int .i64 o, .int .i64 l, .int .i64 m, .slice (some ⟨g5, 0, none⟩) ps.length ps.length, .int .i64 b, .int .i64 t] 31)).cell? ⟨w.heap.size, 0, none⟩ = some (.int .i64 o) := L6.cell 0
    have Lc1 : (w4.alloc (.cells #[.int .i64 o, .int .i64 l, .int .i64 m, .slice (some ⟨g5, 0, none⟩) ps.length ps.length, .int .i64 b, .int .i64 t] 31)).cell? ⟨w.heap.size, 1, none⟩ = some (.int .i64 l) := L6.cell 1
    have Lc2 : (w4.alloc (.cells #[.int .i64 o, .int .i64 l, .int .i64 m, .slice (some ⟨g5, 0, none⟩) ps.length ps.length, .int .i64 b, .int .i64 t] 31)).cell? ⟨w.heap.size, 2, none⟩ = some (.int .i64 m) := L6.cell 2
    have Lc3 : (w4.alloc (.cells #[.int .i64 o, .int .i64 l, .int .i64 m, .slice (some ⟨g5, 0, none⟩) ps.length ps.length, .int .i64 b, .int .i64 t] 31)).cell? ⟨w.heap.size, 3, none⟩ = some (.slice A ps.length c) := L6.cell 3
    have Lc4 : (w4.alloc (.cells #[.int .i64 o, .int .i64 l, .int .i64 m, .slice (some ⟨g5, 0, none⟩) ps.length ps.length, .int .i64 b, .int .i64 t] 31)).cell? ⟨w.heap.size, 4, none⟩ = some (.int .i64 b) := L6.cell 4
    have Lc5 : (w4.alloc (.cells #[.int .i64 o, .int .i64 l, .int .i64 m, .slice (some ⟨g5, 0, none⟩) ps.length ps.length, .int .i64 b, .int .i64 t] 31)).cell? ⟨w.heap.size, 5, none⟩ = some (.int .i64 t) := L6.cell 5
    have Wbc0 : (w4.alloc (.cells #[.int .i64 o, .int .i64 l, .int .i64 m, .slice (some ⟨g5, 0, none⟩) ps.length ps.length, .int .i64 b, .int .i64 t] 31)).cell? ⟨w3.heap.size, 0, none⟩ = some (.int .i64 o2) := Wb6.cell 0
    have Wbc1 : (w4.alloc (.cells #[.int .i64 o, .int .i64 l, .int .i64 m, .slice (some ⟨g5, 0, none⟩) ps.length ps.length, .int .i64 b, .int .i64 t] 31)).cell? ⟨w3.heap.size, 1, none⟩ = some (.int .i64 l2) := Wb6.cell 1
    have Wbc2 : (w4.alloc (.cells #[.int .i64 o, .int .i64 l, .int .i64 m, .slice (some ⟨g5, 0, none⟩) ps.length ps.length, .int .i64 b, .int .i64 t] 31)).cell? ⟨w3.heap.size, 2, none⟩ = some (.int .i64 m2) := Wb6.cell 2
    have Wbc3 : (w4.alloc (.cells #[.int .i64 o, .int .i64 l, .int .i64 m, .slice (some ⟨g5, 0, none⟩) ps.length ps.length, .int .i64 b, .int .i64 t] 31)).cell? ⟨w3.heap.size, 3, none⟩ = some (.slice A3 P2.length c3) := Wb6.cell 3
    have Wbc4 : (w4.alloc (.cells #[.int .i64 o, .int .i64 l, .int .i64 m, .slice (some ⟨g5, 0, none⟩) ps.length ps.length, .int .i64 b, .int .i64 t] 31)).cell? ⟨w3.heap.size, 4, none⟩ = some (.int .i64 b2) := Wb6.cell 4
    have Wbc5 : (w4.alloc (.cells #[.int .i64 o, .int .i64 l, .int .i64 m, .slice (some ⟨g5, 0, none⟩) ps.length ps.length, .int .i64 b, .int .i64 t] 31)).cell? ⟨w3.heap.size, 5, none⟩ = some (.int .i64 t2) := Wb6.cell 5
    have Xbc0 : (w4.alloc (.cells #[.int .i64 o, .int .i64 l, .int .i64 m, .slice (some ⟨g5, 0, none⟩) ps.length ps.length, .int .i64 b, .int .i64 t] 31)).cell? ⟨w4.heap.size, 0, none⟩ = some (.int .i64 o) := Xb6.cell 0
    have Xbc1 : (w4.alloc (.cells #[.int .i64 o, .int .i64 l, .int .i64 m, .slice (some ⟨g5, 0, none⟩) ps.length ps.length, .int .i64 b, .int .i64 t] 31)).cell? ⟨w4.heap.size, 1, none⟩ = some (.int .i64 l) := Xb6.cell 1
    have Xbc2 : (w4.alloc (.cells #[.int .i64 o, .int .i64 l, .int .i64 m, .slice (some ⟨g5, 0, none⟩) ps.length ps.length, .int .i64 b, .int .i64 t] 31)).cell? ⟨w4.heap.size, 2, none⟩ = some (.int .i64 m) := Xb6.cell 2
    have Xbc3 : (w4.alloc (.cells #[.int .i64 o, .int .i64 l, .int .i64 m, .slice (some ⟨g5, 0, none⟩) ps.length ps.length, .int .i64 b, .int .i64 t] 31)).cell? ⟨w4.heap.size, 3, none⟩ = some (.slice (some ⟨g5, 0, none⟩) ps.length ps.length) := Xb6.cell 3
    have Xbc4 : (w4.alloc (.cells #[.int .i64 o, .int .i64 l, .int .i64 m, .slice (some ⟨g5, 0, none⟩) ps.length ps.length, .int .i64 b, .int .i64 t] 31)).cell? ⟨w4.heap.size, 4, none⟩ = some (.int .i64 b) := Xb6.cell 4
    have Xbc5 : (w4.alloc (.cells #[.int .i64 o, .int .i64 l, .int .i64 m, .slice (some ⟨g5, 0, none⟩) ps.length ps.length, .int .i64 b, .int .i64 t] 31)).cell? ⟨w4.heap.size, 5, none⟩ = some (.int .i64 t) := Xb6.cell 5
    go_wp2_with fail
    refine ((unhide CI) _ _ (Xr6.pr (Nat.le_refl _))).mono ?_; rintro e w5 ⟨A6, c6, rfl, O6, hb⟩
    have s7 : (w4.alloc (.cells #[.int .i64 o, .int .i64 l, .int .i64 m, .slice (some ⟨g5, 0, none⟩) ps.length ps.length, .int .i64 b, .int .i64 t] 31)).heap.size ≤ w5.heap.size := Below.size hb
    have B7 := below_next (Nat.le_refl _) B6 hb
    have L7 := L6.below hb L6.lt
    have Wb7 := Wb6.below hb Wb6.lt
    have Xb7 := Xb6.below hb Xb6.lt
    have Wr7 := Wr6.below hb
    have Xr7 := Xr6.below hb
    clear B6 L6 Wb6 Xb6 Wr6 Xr6 Lc0 Lc1 Lc2 Lc3 Lc4 Lc5 Wbc0 Wbc1 Wbc2 Wbc3 Wbc4 Wbc5 Xbc0 Xbc1 Xbc2 Xbc3 Xbc4 Xbc5 hb
    have Gr7 := OwnV.pairs O6
    clear O6
    have s8 : (w5.alloc (.cells #[.int .i64 o2, .int .i64 l2, .int .i64 m2, .slice A6 P2.length c6, .int .i64 b2, .int .i64 t2] 31)).heap.size = w5.heap.size + 1 := World.size_alloc _ _
    have B8 := B7.alloc B7.size (.cells #[.int .i64 o2, .int .i64 l2, .int .i64 m2, .slice A6 P2.length c6, .int .i64 b2, .int .i64 t2] 31)
    have L8 := L7.alloc (.cells #[.int .i64 o2, .int .i64 l2, .int .i64 m2, .slice A6 P2.length c6, .int .i64 b2, .int .i64 t2] 31)
    have Wb8 := Wb7.alloc (.cells #[.int .i64 o2, .int .i64 l2, .int .i64 m2, .slice A6 P2.length c6, .int .i64 b2, .int .i64 t2] 31)
    have Xb8 := Xb7.alloc (.cells #[.int .i64 o2, .int .i64 l2, .int .i64 m2, .slice A6 P2.length c6, .int .i64 b2, .int .i64 t2] 31)
    have Wr8 := Wr7.alloc (.cells #[.int .i64 o2, .int .i64 l2, .int .i64 m2, .slice A6 P2.length c6, .int .i64 b2, .int .i64 t2] 31)
    have Xr8 := Xr7.alloc (.cells #[.int .i64 o2, .int .i64 l2, .int .i64 m2, .slice A6 P2.length c6, .int .i64 b2, .int .i64 t2] 31)
    have Gr8 := Gr7.alloc (.cells #[.int .i64 o2, .int .i64 l2, .int .i64 m2, .slice A6 P2.length c6, .int .i64 b2, .int .i64 t2] 31)
    have Gb8 := Blk.new w5 31 #[.int .i64 o2, .int .i64 l2, .int .i64 m2, .slice A6 P2.length c6, .int .i64 b2, .int .i64 t2]
    clear B7 L7 Wb7 Xb7 Wr7 Xr7 Gr7
    have Gbc0 : (w5.alloc (.cells #[.int .i64 o2, .int .i64 l2, .int .i64 m2, .slice A6 P2.length c6, .int .i64 b2, .int .i64 t2] 31)).cell? ⟨w5.heap.size, 0, none⟩ = some (.int .i64 o2) := Gb8.cell 0
    have Gbc1 : (w5.alloc (.cells #[.int .i64 o2, .int .i64 l2, .int .i64 m2, .slice A6 P2.length c6, .int .i64 b2, .int .i64 t2] 31)).cell? ⟨w5.heap.size, 1, none⟩ = some (.int .i64 l2) := Gb8.cell 1
    have Gbc2 : (w5.alloc (.cells #[.int .i64 o2, .int .i64 l2, .int .i64 m2, .slice A6 P2.length c6, .int .i64 b2, .int .i64 t2] 31)).cell? ⟨w5.heap.size, 2, none⟩ = some (.int .i64 m2) := Gb8.cell 2
    have Gbc3 : (w5.alloc (.cells #[.int .i64 o2, .int .i64 l2, .int .i64 m2, .slice A6 P2.length c6, .int .i64 b2, .int .i64 t2] 31)).cell? ⟨w5.heap.size, 3, none⟩ = some (.slice A6 P2.length c6) := Gb8.cell 3
    have Gbc4 : (w5.alloc (.cells #[.int .i64 o2, .int .i64 l2, .int .i64 m2, .slice A6 P2.length c6, .int .i64 b2, .int .i64 t2] 31)).cell? ⟨w5.heap.size, 4, none⟩ = some (.int .i64 b2) := Gb8.cell 4
    have Gbc5 : (w5.alloc (.cells #[.int .i64 o2, .int .i64 l2, .int .i64 m2, .slice A6 P2.length c6, .int .i64 b2, .int .i64 t2] 31)).cell? ⟨w5.heap.size, 5, none⟩ = some (.int .i64 t2) := Gb8.cell 5
    have Wbc0 : (w5.alloc (.cells #[.int .i64 o2, .int .i64 l2, .int .i64 m2, .slice A6 P2.length c6, .int .i64 b2, .int .i64 t2] 31)).cell? ⟨w3.heap.size, 0, none⟩ = some (.int .i64 o2) := Wb8.cell 0
    have Wbc1 : (w5.alloc (.cells #[.int .i64 o2, .int .i64 l2, .int .i64 m2, .slice A6 P2.length c6, .int .i64 b2, .int .i64 t2] 31)).cell? ⟨w3.heap.size, 1, none⟩ = some (.int .i64 l2) := Wb8.cell 1
    have Wbc2 : (w5.alloc (.cells #[.int .i64 o2, .int .i64 l2, .int .i64 m2, .slice A6 P2.length c6, .int .i64 b2, .int .i64 t2] 31)).cell? ⟨w3.heap.size, 2, none⟩ = some (.int .i64 m2) := Wb8.cell 2
    have Wbc3 : (w5.alloc (.cells #[.int .i64 o2, .int .i64 l2, .int .i64 m2, .slice A6 P2.length c6, .int .i64 b2, .int .i64 t2] 31)).cell? ⟨w3.heap.size, 3, none⟩ = some (.slice A3 P2.length c3) := Wb8.cell 3
    have Wbc4 : (w5.alloc (.cells #[.int .i64 o2, .int .i64 l2, .int .i64 m2, .slice A6 P2.length c6, .int .i64 b2, .int .i64 t2] 31)).cell? ⟨w3.heap.size, 4, none⟩ = some (.int .i64 b2) := Wb8.cell 4
    have Wbc5 : (w5.alloc (.cells #[.int .i64 o2, .int .i64 l2, .int .i64 m2, .slice A6 P2.length c6, .int .i64 b2, .int .i64 t2] 31)).cell? ⟨w3.heap.size, 5, none⟩ = some (.int .i64 t2) := Wb8.cell 5
    go_wp2_with fail
    refine (laws_eqKnown o2 l2 m2 A6 A3 c6 c3 b2 t2 P2 _ (Gr8.pr (Nat.le_refl _)) (Wr8.pr (Nat.le_refl _)) hP2).mono ?_; rintro e w6 ⟨rfl, hb⟩
    have s9 : (w5.alloc (.cells #[.int .i64 o2, .int .i64 l2, .int .i64 m2, .slice A6 P2.length c6, .int .i64 b2, .int .i64 t2] 31)).heap.size ≤ w6.heap.size := Below.size hb
    have B9 := below_next (Nat.le_refl _) B8 hb
    have L9 := L8.below hb L8.lt
    have Wb9 := Wb8.below hb Wb8.lt
    have Xb9 := Xb8.below hb Xb8.lt
    have Gb9 := Gb8.below hb Gb8.lt
    have Wr9 := Wr8.below hb
    have Xr9 := Xr8.below hb
    have Gr9 := Gr8.below hb
    clear B8 L8 Wb8 Xb8 Gb8 Wr8 Xr8 Gr8 Gbc0 Gbc1 Gbc2 Gbc3 Gbc4 Gbc5 Wbc0 Wbc1 Wbc2 Wbc3 Wbc4 Wbc5 hb
    have Xbc0 : w6.cell? ⟨w4.heap.size, 0, none⟩ = some (.int .i64 o) := Xb9.cell 0
    have Xbc1 : w6.cell? ⟨w4.heap.size, 1, none⟩ = some (.int .i64 l) := Xb9.cell 1
    have Xbc2 : w6.cell? ⟨w4.heap.size, 2, none⟩ = some (.int .i64 m) := Xb9.cell 2
    have Xbc3 : w6.cell? ⟨w4.heap.size, 3, none⟩ = some (.slice (some ⟨g5, 0, none⟩) ps.length ps.length) := Xb9.cell 3
    have Xbc4 : w6.cell? ⟨w4.heap.size, 4, none⟩ = some (.int .i64 b) := Xb9.cell 4
    have Xbc5 : w6.cell? ⟨w4.heap.size, 5, none⟩ = some (.int .i64 t) := Xb9.cell 5
    have Lc0 : w6.cell? ⟨w.heap.size, 0, none⟩ = some (.int .i64 o) := L9.cell 0
    have Lc1 : w6.cell? ⟨w.heap.size, 1, none⟩ = some (.int .i64 l) := L9.cell 1
    have Lc2 : w6.cell? ⟨w.heap.size, 2, none⟩ = some (.int .i64 m) := L9.cell 2
    have Lc3 : w6.cell? ⟨w.heap.size, 3, none⟩ = some (.slice A ps.length c) := L9.cell 3
    have Lc4 : w6.cell? ⟨w.heap.size, 4, none⟩ = some (.int .i64 b) := L9.cell 4
    have Lc5 : w6.cell? ⟨w.heap.size, 5, none⟩ = some (.int .i64 t) := L9.cell 5
    go_wp2_with fail
    have s0 : Below w6.heap.size w6 w6.drew ∧ w6.drew.cell? ⟨w4.heap.size, 0, none⟩ = some (.int .i64 o) ∧ w6.drew.cell? ⟨w4.heap.size, 1, none⟩ = some (.int .i64 l) ∧ w6.drew.cell? ⟨w4.heap.size, 2, none⟩ = some (.int .i64 m) ∧ w6.drew.cell? ⟨w4.heap.size, 3, none⟩ = some (.slice (some ⟨g5, 0, none⟩) ps.length ps.length) ∧ w6.drew.cell? ⟨w4.heap.size, 4, none⟩ = some (.int .i64 b) ∧ w6.drew.cell? ⟨w4.heap.size, 5, none⟩ = some (.int .i64 t) ∧ w6.drew.cell? ⟨w.heap.size, 0, none⟩ = some (.int .i64 o) ∧ w6.drew.cell? ⟨w.heap.size, 1, none⟩ = some (.int .i64 l) ∧ w6.drew.cell? ⟨w.heap.size, 2, none⟩ = some (.int .i64 m) ∧ w6.drew.cell? ⟨w.heap.size, 3, none⟩ = some (.slice A ps.length c) ∧ w6.drew.cell? ⟨w.heap.size, 4, none⟩ = some (.int .i64 b) ∧ w6.drew.cell? ⟨w.heap.size, 5, none⟩ = some (.int .i64 t) := ⟨(Below.refl _ _).drew, Xb9.cell 0, Xb9.cell 1, Xb9.cell 2, Xb9.cell 3, Xb9.cell 4, Xb9.cell 5, L9.cell 0, L9.cell 1, L9.cell 2, L9.cell 3, L9.cell 4, L9.cell 5⟩
    clear Xbc0 Xbc1 Xbc2 Xbc3 Xbc4 Xbc5 Lc0 Lc1 Lc2 Lc3 Lc4 Lc5
    refine wp_region_held_drew (S := (fun W => Below w6.heap.size w6 W ∧ W.cell? ⟨w4.heap.size, 0, none⟩ = some (.int .i64 o) ∧ W.cell? ⟨w4.heap.size, 1, none⟩ = some (.int .i64 l) ∧ W.cell? ⟨w4.heap.size, 2, none⟩ = some (.int .i64 m) ∧ W.cell? ⟨w4.heap.size, 3, none⟩ = some (.slice (some ⟨g5, 0, none⟩) ps.length ps.length) ∧ W.cell? ⟨w4.heap.size, 4, none⟩ = some (.int .i64 b) ∧ W.cell? ⟨w4.heap.size, 5, none⟩ = some (.int .i64 t) ∧ W.cell? ⟨w.heap.size, 0, none⟩ = some (.int .i64 o) ∧ W.cell? ⟨w.heap.size, 1, none⟩ = some (.int .i64 l) ∧ W.cell? ⟨w.heap.size, 2, none⟩ = some (.int .i64 m) ∧ W.cell? ⟨w.heap.size, 3, none⟩ = some (.slice A ps.length c) ∧ W.cell? ⟨w.heap.size, 4, none⟩ = some (.int .i64 b) ∧ W.cell? ⟨w.heap.size, 5, none⟩ = some (.int .i64 t))) (by kernel_rfl) (by first | assumption | exact s0 | exact keep12 (by assumption) (by assumption)) (fun hHeld => ?_)
    refine wpAnyH_take (i := 0) (oi := { dst := some 45, op := Op.load 31 (Operand.tmp 8), type := 31, pos := "exact.go:1469", after := #[], guard := none }) (v := ?_) rfl (by kernel_rfl) (by kernel_rfl) (by kernel_rfl) (fun _ _ _ h => h) (Or.inl ⟨by rfl, ?_⟩) (by assumption) ?_; rotate_left
    · intro W hW; (try dsimp only at hW); go_simp;  try (with_reducible rfl)
    try simp only [Act.put, List.setIfInBounds_toArray, List.set_cons_zero, List.set_cons_succ]
    refine wpAnyH_take (i := 1) (oi := { dst := some 46, op := Op.load 26 (Operand.tmp 2), type := 26, pos := "exact.go:1469", after := #[], guard := none }) (v := ?_) rfl (by kernel_rfl) (by kernel_rfl) (by kernel_rfl) (fun _ _ _ h => h) (Or.inl ⟨by rfl, ?_⟩) (by assumption) ?_; rotate_left
    · intro W hW; (try dsimp only at hW); go_simp;  try (with_reducible rfl)
    try simp only [Act.put, List.setIfInBounds_toArray, List.set_cons_zero, List.set_cons_succ]
    refine wpAnyH_ready (rs := [2]) (by kernel_rfl) (by simp) (AllReadyH.cons (i := 2) (o := { dst := some 47, op := Op.call { callee := Callee.value (Operand.func 16), args := #[Operand.tmp 46], argTypes := #[26] }, type := 31, pos := "exact.go:1469", after := #[{ on := 1, ground := Ground.data }], guard := none }) rfl (fun K hK => ?_) AllReadyH.nil)
    go_simp
    refine (laws_toKnown o l m A c b t ps _ (hr.keep (Nat.le_trans B9.size hHeld.1.size) (below_next (Nat.le_refl _) B9 hHeld.1)) hn).mono ?_; rintro e w' ⟨g8, rfl, hg8, hQ8, hb⟩
    try go_wp2_with fail
    refine hK.out _ _ (by (try dsimp only); first | assumption | exact s0 | exact keep12 (by assumption) (by assumption)) (fun hHeld => ?_)
    clear hK K
    try simp only [Act.put, List.setIfInBounds_toArray, List.set_cons_zero, List.set_cons_succ]
    refine wpAnyH_ready (rs := [3]) (by kernel_rfl) (by simp) (AllReadyH.cons (i := 3) (o := { dst := some 48, op := Op.call { callee := Callee.value (Operand.func 18), args := #[Operand.tmp 45, Operand.tmp 47], argTypes := #[31, 31] }, type := 4, pos := "exact.go:1469", after := #[{ on := 0, ground := Ground.data }, { on := 2, ground := Ground.data }, { on := 2, ground := Ground.chain }], guard := none }) rfl (fun K hK => ?_) AllReadyH.nil)
    go_simp
    have XQ := Xr9.below hHeld.1
    refine (laws_eqKnown o l m (some ⟨g5, 0, none⟩) (some ⟨g8, 0, none⟩) ps.length ps.length b t ps _ (XQ.pr (Nat.le_refl _)) (PR.of_blk hQ8 hQ8.lt) hn).mono ?_; rintro e wq ⟨rfl, hb⟩
    try go_wp2_with fail
    refine hK.out _ _ (by (try dsimp only); first | assumption | exact s0 | exact keep12 (by assumption) (by assumption)) (fun hHeld => ?_)
    clear hK K
    try simp only [Act.put, List.setIfInBounds_toArray, List.set_cons_zero, List.set_cons_succ]
    refine wpAnyH_take (i := 4) (oi := { dst := some 49, op := Op.unOp UnOp.not 4 (Operand.tmp 48), type := 4, pos := "exact.go:1469", after := #[{ on := 3, ground := Ground.data }], guard := none }) (v := ?_) rfl (by kernel_rfl) (by kernel_rfl) (by kernel_rfl) (fun _ _ _ h => h) (Or.inl ⟨by rfl, ?_⟩) (by assumption) ?_; rotate_left
    · intro W hW; (try dsimp only at hW); go_simp;  try (with_reducible rfl)
    try simp only [Act.put, List.setIfInBounds_toArray, List.set_cons_zero, List.set_cons_succ]
    refine wpAnyH_done (by kernel_rfl) ?_ _
    have hE := hHeld.1
    clear hHeld s0
    have s10 : w6.heap.size ≤ wq.heap.size := Below.size hE
    have B10 := below_next (Nat.le_refl _) B9 hE
    have L10 := L9.below hE L9.lt
    have Wb10 := Wb9.below hE Wb9.lt
    have Xb10 := Xb9.below hE Xb9.lt
    have Gb10 := Gb9.below hE Gb9.lt
    have Wr10 := Wr9.below hE
    have Xr10 := Xr9.below hE
    have Gr10 := Gr9.below hE
    clear B9 L9 Wb9 Xb9 Gb9 Wr9 Xr9 Gr9 hE
    have Xbc0 : wq.cell? ⟨w4.heap.size, 0, none⟩ = some (.int .i64 o) := Xb10.cell 0
    have Xbc1 : wq.cell? ⟨w4.heap.size, 1, none⟩ = some (.int .i64 l) := Xb10.cell 1
    have Xbc2 : wq.cell? ⟨w4.heap.size, 2, none⟩ = some (.int .i64 m) := Xb10.cell 2
    have Xbc3 : wq.cell? ⟨w4.heap.size, 3, none⟩ = some (.slice (some ⟨g5, 0, none⟩) ps.length ps.length) := Xb10.cell 3
    have Xbc4 : wq.cell? ⟨w4.heap.size, 4, none⟩ = some (.int .i64 b) := Xb10.cell 4
    have Xbc5 : wq.cell? ⟨w4.heap.size, 5, none⟩ = some (.int .i64 t) := Xb10.cell 5
    go_wp2_with fail
    refine (mark_known o l m (some ⟨g5, 0, none⟩) ps.length b t ps _ _ _ Xr10 (by omega)).mono ?_; rintro e wm1 ⟨rfl, hM, hO⟩
    have s11 := Only.size hO
    have B11 := Only.below B10 hO (by omega) B10.size
    have L11 := Only.blk hO L10 (by decide)
    have Wb11 := Only.blk hO Wb10 (by decide)
    have Xb11 := Only.blk hO Xb10 (by decide)
    have Gb11 := Only.blk hO Gb10 (by decide)
    have Wr11 := by first | exact Only.own_ne hO Wr10 (by decide) | exact Only.own hO Wr10 (by first | exact .inl (by omega) | exact .inr (by omega))
    have Xr11 := hM
    have Gr11 := by first | exact Only.own_ne hO Gr10 (by decide) | exact Only.own hO Gr10 (by first | exact .inl (by omega) | exact .inr (by omega))
    clear B10 L10 Wb10 Xb10 Gb10 Wr10 Xr10 Gr10 Xbc0 Xbc1 Xbc2 Xbc3 Xbc4 Xbc5 hO
    have Gbc0 : wm1.cell? ⟨w5.heap.size, 0, none⟩ = some (.int .i64 o2) := Gb11.cell 0
    have Gbc1 : wm1.cell? ⟨w5.heap.size, 1, none⟩ = some (.int .i64 l2) := Gb11.cell 1
    have Gbc2 : wm1.cell? ⟨w5.heap.size, 2, none⟩ = some (.int .i64 m2) := Gb11.cell 2
    have Gbc3 : wm1.cell? ⟨w5.heap.size, 3, none⟩ = some (.slice A6 P2.length c6) := Gb11.cell 3
    have Gbc4 : wm1.cell? ⟨w5.heap.size, 4, none⟩ = some (.int .i64 b2) := Gb11.cell 4
    have Gbc5 : wm1.cell? ⟨w5.heap.size, 5, none⟩ = some (.int .i64 t2) := Gb11.cell 5
    have Wbc0 : wm1.cell? ⟨w3.heap.size, 0, none⟩ = some (.int .i64 o2) := Wb11.cell 0
    have Wbc1 : wm1.cell? ⟨w3.heap.size, 1, none⟩ = some (.int .i64 l2) := Wb11.cell 1
    have Wbc2 : wm1.cell? ⟨w3.heap.size, 2, none⟩ = some (.int .i64 m2) := Wb11.cell 2
    have Wbc3 : wm1.cell? ⟨w3.heap.size, 3, none⟩ = some (.slice A3 P2.length c3) := Wb11.cell 3
    have Wbc4 : wm1.cell? ⟨w3.heap.size, 4, none⟩ = some (.int .i64 b2) := Wb11.cell 4
    have Wbc5 : wm1.cell? ⟨w3.heap.size, 5, none⟩ = some (.int .i64 t2) := Wb11.cell 5
    go_wp2_with fail
    refine (laws_eqKnown o2 l2 m2 A6 A3 c6 c3 b2 t2 P2 _ (Gr11.pr (Nat.le_refl _)) (Wr11.pr (Nat.le_refl _)) hP2).mono ?_; rintro e w7 ⟨rfl, hb⟩
    have s12 : wm1.heap.size ≤ w7.heap.size := Below.size hb
    have B12 := below_next (Nat.le_refl _) B11 hb
    have L12 := L11.below hb L11.lt
    have Wb12 := Wb11.below hb Wb11.lt
    have Xb12 := Xb11.below hb Xb11.lt
    have Gb12 := Gb11.below hb Gb11.lt
    have Wr12 := Wr11.below hb
    have Xr12 := Xr11.below hb
    have Gr12 := Gr11.below hb
    clear B11 L11 Wb11 Xb11 Gb11 Wr11 Xr11 Gr11 Gbc0 Gbc1 Gbc2 Gbc3 Gbc4 Gbc5 Wbc0 Wbc1 Wbc2 Wbc3 Wbc4 Wbc5 hb
    have Gbc0 : w7.cell? ⟨w5.heap.size, 0, none⟩ = some (.int .i64 o2) := Gb12.cell 0
    have Gbc1 : w7.cell? ⟨w5.heap.size, 1, none⟩ = some (.int .i64 l2) := Gb12.cell 1
    have Gbc2 : w7.cell? ⟨w5.heap.size, 2, none⟩ = some (.int .i64 m2) := Gb12.cell 2
    have Gbc3 : w7.cell? ⟨w5.heap.size, 3, none⟩ = some (.slice A6 P2.length c6) := Gb12.cell 3
    have Gbc4 : w7.cell? ⟨w5.heap.size, 4, none⟩ = some (.int .i64 b2) := Gb12.cell 4
    have Gbc5 : w7.cell? ⟨w5.heap.size, 5, none⟩ = some (.int .i64 t2) := Gb12.cell 5
    go_wp2_with fail
    refine (mark_known o2 l2 m2 A6 c6 b2 t2 P2 _ _ _ Gr12 (by omega)).mono ?_; rintro e wm2 ⟨rfl, hM, hO⟩
    have s13 := Only.size hO
    have B13 := Only.below B12 hO (by omega) B12.size
    have L13 := Only.blk hO L12 (by decide)
    have Wb13 := Only.blk hO Wb12 (by decide)
    have Xb13 := Only.blk hO Xb12 (by decide)
    have Gb13 := Only.blk hO Gb12 (by decide)
    have Wr13 := by first | exact Only.own_ne hO Wr12 (by decide) | exact Only.own hO Wr12 (by first | exact .inl (by omega) | exact .inr (by omega))
    have Xr13 := by first | exact Only.own_ne hO Xr12 (by decide) | exact Only.own hO Xr12 (by first | exact .inl (by omega) | exact .inr (by omega))
    have Gr13 := hM
    clear B12 L12 Wb12 Xb12 Gb12 Wr12 Xr12 Gr12 Gbc0 Gbc1 Gbc2 Gbc3 Gbc4 Gbc5 hO
    have Gbc0 : wm2.cell? ⟨w5.heap.size, 0, none⟩ = some (.int .i64 o2) := Gb13.cell 0
    have Gbc1 : wm2.cell? ⟨w5.heap.size, 1, none⟩ = some (.int .i64 l2) := Gb13.cell 1
    have Gbc2 : wm2.cell? ⟨w5.heap.size, 2, none⟩ = some (.int .i64 m2) := Gb13.cell 2
    have Gbc3 : wm2.cell? ⟨w5.heap.size, 3, none⟩ = some (.slice A6 P2.length c6) := Gb13.cell 3
    have Gbc4 : wm2.cell? ⟨w5.heap.size, 4, none⟩ = some (.int .i64 b2) := Gb13.cell 4
    have Gbc5 : wm2.cell? ⟨w5.heap.size, 5, none⟩ = some (.int .i64 t2) := Gb13.cell 5
    go_wp2_with fail
    refine (held_known o2 l2 m2 A6 P2.length c6 b2 t2 _ _ _ Gr13 (by omega)).mono ?_; rintro e w8 ⟨rfl, hb⟩
    have s14 : wm2.heap.size ≤ w8.heap.size := Below.size hb
    have B14 := below_next (Nat.le_refl _) B13 hb
    have L14 := L13.below hb L13.lt
    have Wb14 := Wb13.below hb Wb13.lt
    have Xb14 := Xb13.below hb Xb13.lt
    have Gb14 := Gb13.below hb Gb13.lt
    have Wr14 := Wr13.below hb
    have Xr14 := Xr13.below hb
    have Gr14 := Gr13.below hb
    clear B13 L13 Wb13 Xb13 Gb13 Wr13 Xr13 Gr13 Gbc0 Gbc1 Gbc2 Gbc3 Gbc4 Gbc5 hb
    have Lc0 : w8.cell? ⟨w.heap.size, 0, none⟩ = some (.int .i64 o) := L14.cell 0
    have Lc1 : w8.cell? ⟨w.heap.size, 1, none⟩ = some (.int .i64 l) := L14.cell 1
    have Lc2 : w8.cell? ⟨w.heap.size, 2, none⟩ = some (.int .i64 m) := L14.cell 2
    have Lc3 : w8.cell? ⟨w.heap.size, 3, none⟩ = some (.slice A ps.length c) := L14.cell 3
    have Lc4 : w8.cell? ⟨w.heap.size, 4, none⟩ = some (.int .i64 b) := L14.cell 4
    have Lc5 : w8.cell? ⟨w.heap.size, 5, none⟩ = some (.int .i64 t) := L14.cell 5
    go_wp2_with fail
    refine (laws_toKnown o l m A c b t ps _ (hr.keep B14.size B14) hn).mono ?_; rintro e w9 ⟨g9, rfl, hg9, hQ9, hb⟩
    have s15 : w8.heap.size ≤ w9.heap.size := Below.size hb
    have B15 := below_next (Nat.le_refl _) B14 hb
    have L15 := L14.below hb L14.lt
    have Wb15 := Wb14.below hb Wb14.lt
    have Xb15 := Xb14.below hb Xb14.lt
    have Gb15 := Gb14.below hb Gb14.lt
    have Wr15 := Wr14.below hb
    have Xr15 := Xr14.below hb
    have Gr15 := Gr14.below hb
    clear B14 L14 Wb14 Xb14 Gb14 Wr14 Xr14 Gr14 Lc0 Lc1 Lc2 Lc3 Lc4 Lc5 hb
    go_wp2_with fail
    refine ((unhide CI) _ _ (PR.of_blk hQ9 hQ9.lt)).mono ?_; rintro e w10 ⟨A10, c10, rfl, O10, hb⟩
    have s16 : w9.heap.size ≤ w10.heap.size := Below.size hb
    have B16 := below_next (Nat.le_refl _) B15 hb
    have L16 := L15.below hb L15.lt
    have Wb16 := Wb15.below hb Wb15.lt
    have Xb16 := Xb15.below hb Xb15.lt
    have Gb16 := Gb15.below hb Gb15.lt
    have Wr16 := Wr15.below hb
    have Xr16 := Xr15.below hb
    have Gr16 := Gr15.below hb
    clear B15 L15 Wb15 Xb15 Gb15 Wr15 Xr15 Gr15 hb hQ9 hg9
    have Hr16 := OwnV.pairs O10
    clear O10
    have s17 : (w10.alloc (.cells #[.int .i64 o2, .int .i64 l2, .int .i64 m2, .slice A10 P2.length c10, .int .i64 b2, .int .i64 t2] 31)).heap.size = w10.heap.size + 1 := World.size_alloc _ _
    have B17 := B16.alloc B16.size (.cells #[.int .i64 o2, .int .i64 l2, .int .i64 m2, .slice A10 P2.length c10, .int .i64 b2, .int .i64 t2] 31)
    have L17 := L16.alloc (.cells #[.int .i64 o2, .int .i64 l2, .int .i64 m2, .slice A10 P2.length c10, .int .i64 b2, .int .i64 t2] 31)
    have Wb17 := Wb16.alloc (.cells #[.int .i64 o2, .int .i64 l2, .int .i64 m2, .slice A10 P2.length c10, .int .i64 b2, .int .i64 t2] 31)
    have Xb17 := Xb16.alloc (.cells #[.int .i64 o2, .int .i64 l2, .int .i64 m2, .slice A10 P2.length c10, .int .i64 b2, .int .i64 t2] 31)
    have Gb17 := Gb16.alloc (.cells #[.int .i64 o2, .int .i64 l2, .int .i64 m2, .slice A10 P2.length c10, .int .i64 b2, .int .i64 t2] 31)
    have Wr17 := Wr16.alloc (.cells #[.int .i64 o2, .int .i64 l2, .int .i64 m2, .slice A10 P2.length c10, .int .i64 b2, .int .i64 t2] 31)
    have Xr17 := Xr16.alloc (.cells #[.int .i64 o2, .int .i64 l2, .int .i64 m2, .slice A10 P2.length c10, .int .i64 b2, .int .i64 t2] 31)
    have Gr17 := Gr16.alloc (.cells #[.int .i64 o2, .int .i64 l2, .int .i64 m2, .slice A10 P2.length c10, .int .i64 b2, .int .i64 t2] 31)
    have Hr17 := Hr16.alloc (.cells #[.int .i64 o2, .int .i64 l2, .int .i64 m2, .slice A10 P2.length c10, .int .i64 b2, .int .i64 t2] 31)
    have Hb17 := Blk.new w10 31 #[.int .i64 o2, .int .i64 l2, .int .i64 m2, .slice A10 P2.length c10, .int .i64 b2, .int .i64 t2]
    clear B16 L16 Wb16 Xb16 Gb16 Wr16 Xr16 Gr16 Hr16
    have Hbc0 : (w10.alloc (.cells #[.int .i64 o2, .int .i64 l2, .int .i64 m2, .slice A10 P2.length c10, .int .i64 b2, .int .i64 t2] 31)).cell? ⟨w10.heap.size, 0, none⟩ = some (.int .i64 o2) := Hb17.cell 0
    have Hbc1 : (w10.alloc (.cells #[.int .i64 o2, .int .i64 l2, .int .i64 m2, .slice A10 P2.length c10, .int .i64 b2, .int .i64 t2] 31)).cell? ⟨w10.heap.size, 1, none⟩ = some (.int .i64 l2) := Hb17.cell 1
    have Hbc2 : (w10.alloc (.cells #[.int .i64 o2, .int .i64 l2, .int .i64 m2, .slice A10 P2.length c10, .int .i64 b2, .int .i64 t2] 31)).cell? ⟨w10.heap.size, 2, none⟩ = some (.int .i64 m2) := Hb17.cell 2
    have Hbc3 : (w10.alloc (.cells #[.int .i64 o2, .int .i64 l2, .int .i64 m2, .slice A10 P2.length c10, .int .i64 b2, .int .i64 t2] 31)).cell? ⟨w10.heap.size, 3, none⟩ = some (.slice A10 P2.length c10) := Hb17.cell 3
    have Hbc4 : (w10.alloc (.cells #[.int .i64 o2, .int .i64 l2, .int .i64 m2, .slice A10 P2.length c10, .int .i64 b2, .int .i64 t2] 31)).cell? ⟨w10.heap.size, 4, none⟩ = some (.int .i64 b2) := Hb17.cell 4
    have Hbc5 : (w10.alloc (.cells #[.int .i64 o2, .int .i64 l2, .int .i64 m2, .slice A10 P2.length c10, .int .i64 b2, .int .i64 t2] 31)).cell? ⟨w10.heap.size, 5, none⟩ = some (.int .i64 t2) := Hb17.cell 5
    have Wbc0 : (w10.alloc (.cells #[.int .i64 o2, .int .i64 l2, .int .i64 m2, .slice A10 P2.length c10, .int .i64 b2, .int .i64 t2] 31)).cell? ⟨w3.heap.size, 0, none⟩ = some (.int .i64 o2) := Wb17.cell 0
    have Wbc1 : (w10.alloc (.cells #[.int .i64 o2, .int .i64 l2, .int .i64 m2, .slice A10 P2.length c10, .int .i64 b2, .int .i64 t2] 31)).cell? ⟨w3.heap.size, 1, none⟩ = some (.int .i64 l2) := Wb17.cell 1
    have Wbc2 : (w10.alloc (.cells #[.int .i64 o2, .int .i64 l2, .int .i64 m2, .slice A10 P2.length c10, .int .i64 b2, .int .i64 t2] 31)).cell? ⟨w3.heap.size, 2, none⟩ = some (.int .i64 m2) := Wb17.cell 2
    have Wbc3 : (w10.alloc (.cells #[.int .i64 o2, .int .i64 l2, .int .i64 m2, .slice A10 P2.length c10, .int .i64 b2, .int .i64 t2] 31)).cell? ⟨w3.heap.size, 3, none⟩ = some (.slice A3 P2.length c3) := Wb17.cell 3
    have Wbc4 : (w10.alloc (.cells #[.int .i64 o2, .int .i64 l2, .int .i64 m2, .slice A10 P2.length c10, .int .i64 b2, .int .i64 t2] 31)).cell? ⟨w3.heap.size, 4, none⟩ = some (.int .i64 b2) := Wb17.cell 4
    have Wbc5 : (w10.alloc (.cells #[.int .i64 o2, .int .i64 l2, .int .i64 m2, .slice A10 P2.length c10, .int .i64 b2, .int .i64 t2] 31)).cell? ⟨w3.heap.size, 5, none⟩ = some (.int .i64 t2) := Wb17.cell 5
    go_wp2_with fail
    refine (laws_eqKnown o2 l2 m2 A10 A3 c10 c3 b2 t2 P2 _ (Hr17.pr (Nat.le_refl _)) (Wr17.pr (Nat.le_refl _)) hP2).mono ?_; rintro e w11 ⟨rfl, hb⟩
    have s18 : (w10.alloc (.cells #[.int .i64 o2, .int .i64 l2, .int .i64 m2, .slice A10 P2.length c10, .int .i64 b2, .int .i64 t2] 31)).heap.size ≤ w11.heap.size := Below.size hb
    have B18 := below_next (Nat.le_refl _) B17 hb
    have L18 := L17.below hb L17.lt
    have Wb18 := Wb17.below hb Wb17.lt
    have Xb18 := Xb17.below hb Xb17.lt
    have Gb18 := Gb17.below hb Gb17.lt
    have Hb18 := Hb17.below hb Hb17.lt
    have Wr18 := Wr17.below hb
    have Xr18 := Xr17.below hb
    have Gr18 := Gr17.below hb
    have Hr18 := Hr17.below hb
    clear B17 L17 Wb17 Xb17 Gb17 Hb17 Wr17 Xr17 Gr17 Hr17 Hbc0 Hbc1 Hbc2 Hbc3 Hbc4 Hbc5 Wbc0 Wbc1 Wbc2 Wbc3 Wbc4 Wbc5 hb
    have Gbc0 : w11.cell? ⟨w5.heap.size, 0, none⟩ = some (.int .i64 o2) := Gb18.cell 0
    have Gbc1 : w11.cell? ⟨w5.heap.size, 1, none⟩ = some (.int .i64 l2) := Gb18.cell 1
    have Gbc2 : w11.cell? ⟨w5.heap.size, 2, none⟩ = some (.int .i64 m2) := Gb18.cell 2
    have Gbc3 : w11.cell? ⟨w5.heap.size, 3, none⟩ = some (.slice A6 P2.length c6) := Gb18.cell 3
    have Gbc4 : w11.cell? ⟨w5.heap.size, 4, none⟩ = some (.int .i64 b2) := Gb18.cell 4
    have Gbc5 : w11.cell? ⟨w5.heap.size, 5, none⟩ = some (.int .i64 t2) := Gb18.cell 5
    go_wp2_with fail
    refine (held_known o2 l2 m2 A6 P2.length c6 b2 t2 _ _ _ Gr18 (by omega)).mono ?_; rintro e w12 ⟨rfl, hb⟩
    have s19 : w11.heap.size ≤ w12.heap.size := Below.size hb
    have B19 := below_next (Nat.le_refl _) B18 hb
    have L19 := L18.below hb L18.lt
    have Wb19 := Wb18.below hb Wb18.lt
    have Xb19 := Xb18.below hb Xb18.lt
    have Gb19 := Gb18.below hb Gb18.lt
    have Hb19 := Hb18.below hb Hb18.lt
    have Wr19 := Wr18.below hb
    have Xr19 := Xr18.below hb
    have Gr19 := Gr18.below hb
    have Hr19 := Hr18.below hb
    clear B18 L18 Wb18 Xb18 Gb18 Hb18 Wr18 Xr18 Gr18 Hr18 Gbc0 Gbc1 Gbc2 Gbc3 Gbc4 Gbc5 hb
    go_wp2_with fail
    go_ret
    exact ⟨rfl, B19⟩
  · have CZ := hide (fun wx => by have := laws_szKnown o l m A ps.length c b t wx (by omega); rwa [if_neg hn] at this)
    go_enter Try.func3, Try.ntmps3
    go_wp2_with fail
    refine ((unhide CZ) _).mono ?_; rintro e w1 ⟨rfl, hb1⟩
    go_wp2_with fail
    go_ret
    exact ⟨rfl, below_next (Nat.le_refl _) B0 hb1⟩

end Go.Proofs.Ytegfcpdkehgdpaa

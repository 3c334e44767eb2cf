/- The walk of the exact law on CodesWidths. Conditions: the cells of the pairs and of the codes lie below the call's own memory. -/
import Derived.Test.YtegfcpdkehgdpaaCwLaw
namespace Go.Proofs.Ytegfcpdkehgdpaa
open Go.RowKit

set_option maxRecDepth 100000 in
set_option maxHeartbeats 8000000 in
theorem law_FnExactCodesWidths (o l m : Int) (A : Option Addr) (c : Nat) (b t : Int) (ps : List (Int × Int)) (A2 : Option Addr) (c2 : Nat) (xs : List Int) (w : World) (hr : PR w w.heap.size A ps) (hz : ps.length ≤ maxLen) (hr2 : IR w w.heap.size A2 xs) (hz2 : xs.length ≤ maxLen) :
    Calls Try.prog 6 #[kv o l m A ps.length c b t, .slice A2 xs.length c2] w fun e w' => e = .returned (.bool true) ∧ Below w.heap.size w w' := by
  unfold maxLen at hz hz2
  have B0 : Below w.heap.size w (w.alloc (.cells #[.int .i64 o, .int .i64 l, .int .i64 m, .slice A ps.length c, .int .i64 b, .int .i64 t] 26)) := (Below.refl _ _).alloc (Nat.le_refl _) _
  by_cases hm : xs.length ≤ 1048576
  · by_cases hn : ps.length ≤ 1048576
    · have CZ := hide (fun wx => by have := laws_szKnown o l m A ps.length c b t wx (by omega); rwa [if_pos hn] at this)
      have L0 := Blk.new w 26 #[.int .i64 o, .int .i64 l, .int .i64 m, .slice A ps.length c, .int .i64 b, .int .i64 t]
      have sw : (w.alloc (.cells #[.int .i64 o, .int .i64 l, .int .i64 m, .slice A ps.length c, .int .i64 b, .int .i64 t] 26)).heap.size = w.heap.size + 1 := World.size_alloc _ _
      have CS := hide (fun (A A2 : Option Addr) (wx : World) (hp : PR wx wx.heap.size A ps) (hi : IR wx wx.heap.size A2 xs) => spec_CodesWidths o l m A ps.length b t ps A2 xs.length xs wx hp hn hi (by omega) (Nat.le_refl _))
      have CI := hide (fun (A A2 : Option Addr) (wx : World) (hp : PR wx wx.heap.size A ps) (hi : IR wx wx.heap.size A2 xs) => impl_CodesWidths o l m A ps.length b t ps A2 xs.length xs wx hp hn hi (by omega))
      have n0 : ¬ 1048576 - (ps.length : Int) < 0 := by omega
      have n3 : ¬ (1048576 : Int) < (xs.length : Int) := by omega
      have hWl := (Sx.cw_len (o := o) (l := l) (m := m) (b := b) (t := t) (ps := ps) (xs := xs)).1
      obtain ⟨W, hW⟩ : ∃ W, W = Sx.cwW o l m b t ps xs := ⟨_, rfl⟩
      skip
      rw [← hW] at hWl
      have HW := hide hW
      clear hW
      have n1 : ¬ 1 + 2 * (ps.length : Int) + (xs.length : Int) < 0 := by omega
      have n2 : ¬ 1 + (W.length : Int) < 0 := by omega
      have hk2 : (1 + 2 * (ps.length : Int)) = 1 + ((2 * ps.length : Nat) : Int) := by omega
      have HK2 := hide hk2
      clear hk2
      go_enter Try.func6, Try.ntmps6
      have Lc0 : (w.alloc (.cells #[.int .i64 o, .int .i64 l, .int .i64 m, .slice A ps.length c, .int .i64 b, .int .i64 t] 26)).cell? ⟨w.heap.size, 0, none⟩ = some (.int .i64 o) := L0.cell 0
      have Lc1 : (w.alloc (.cells #[.int .i64 o, .int .i64 l, .int .i64 m, .slice A ps.length c, .int .i64 b, .int .i64 t] 26)).cell? ⟨w.heap.size, 1, none⟩ = some (.int .i64 l) := L0.cell 1
      have Lc2 : (w.alloc (.cells #[.int .i64 o, .int .i64 l, .int .i64 m, .slice A ps.length c, .int .i64 b, .int .i64 t] 26)).cell? ⟨w.heap.size, 2, none⟩ = some (.int .i64 m) := L0.cell 2
      have Lc3 : (w.alloc (.cells #[.int .i64 o, .int .i64 l, .int .i64 m, .slice A ps.length c, .int .i64 b, .int .i64 t] 26)).cell? ⟨w.heap.size, 3, none⟩ = some (.slice A ps.length c) := L0.cell 3
      have Lc4 : (w.alloc (.cells #[.int .i64 o, .int .i64 l, .int .i64 m, .slice A ps.length c, .int .i64 b, .int .i64 t] 26)).cell? ⟨w.heap.size, 4, none⟩ = some (.int .i64 b) := L0.cell 4
      have Lc5 : (w.alloc (.cells #[.int .i64 o, .int .i64 l, .int .i64 m, .slice A ps.length c, .int .i64 b, .int .i64 t] 26)).cell? ⟨w.heap.size, 5, none⟩ = some (.int .i64 t) := L0.cell 5
      go_wp2_with fail
      refine ((unhide CZ) _).mono ?_; rintro e w1 ⟨rfl, hb⟩
      have s1 : (w.alloc (.cells #[.int .i64 o, .int .i64 l, .int .i64 m, .slice A ps.length c, .int .i64 b, .int .i64 t] 26)).heap.size ≤ w1.heap.size := Below.size hb
      have B1 := below_next (Nat.le_refl _) B0 hb
      have L1 := L0.below hb L0.lt
      clear B0 L0 Lc0 Lc1 Lc2 Lc3 Lc4 Lc5 hb
      have Lc0 : w1.cell? ⟨w.heap.size, 0, none⟩ = some (.int .i64 o) := L1.cell 0
      have Lc1 : w1.cell? ⟨w.heap.size, 1, none⟩ = some (.int .i64 l) := L1.cell 1
      have Lc2 : w1.cell? ⟨w.heap.size, 2, none⟩ = some (.int .i64 m) := L1.cell 2
      have Lc3 : w1.cell? ⟨w.heap.size, 3, none⟩ = some (.slice A ps.length c) := L1.cell 3
      have Lc4 : w1.cell? ⟨w.heap.size, 4, none⟩ = some (.int .i64 b) := L1.cell 4
      have Lc5 : w1.cell? ⟨w.heap.size, 5, none⟩ = some (.int .i64 t) := L1.cell 5
      go_wp2_with fail
      refine (laws_toKnown o l m A c b t ps _ (hr.keep B1.size B1) hn).mono ?_; rintro e w2 ⟨g0, rfl, hg, hQ, hb⟩
      have s2 : w1.heap.size ≤ w2.heap.size := Below.size hb
      have B2 := below_next (Nat.le_refl _) B1 hb
      have L2 := L1.below hb L1.lt
      clear B1 L1 Lc0 Lc1 Lc2 Lc3 Lc4 Lc5 hb
      have Q0_2 := OwnV.of_blk hQ hg hQ.lt
      clear hQ hg
      have Lc0 : w2.cell? ⟨w.heap.size, 0, none⟩ = some (.int .i64 o) := L2.cell 0
      have Lc1 : w2.cell? ⟨w.heap.size, 1, none⟩ = some (.int .i64 l) := L2.cell 1
      have Lc2 : w2.cell? ⟨w.heap.size, 2, none⟩ = some (.int .i64 m) := L2.cell 2
      have Lc3 : w2.cell? ⟨w.heap.size, 3, none⟩ = some (.slice A ps.length c) := L2.cell 3
      have Lc4 : w2.cell? ⟨w.heap.size, 4, none⟩ = some (.int .i64 b) := L2.cell 4
      have Lc5 : w2.cell? ⟨w.heap.size, 5, none⟩ = some (.int .i64 t) := L2.cell 5
      go_wp2_with fail
      refine (laws_toIntS A2 c2 xs _ (hr2.keep B2.size B2) hm).mono ?_; rintro e w3 ⟨h0, rfl, hI, hb⟩
      have s3 : w2.heap.size ≤ w3.heap.size := Below.size hb
      have B3 := below_next (Nat.le_refl _) B2 hb
      have L3 := L2.below hb L2.lt
      have Q0_3 := Q0_2.below hb
      clear B2 L2 Q0_2 Lc0 Lc1 Lc2 Lc3 Lc4 Lc5 hb
      have I0_3 := OwnV.ints hI
      clear hI
      have Lc0 : w3.cell? ⟨w.heap.size, 0, none⟩ = some (.int .i64 o) := L3.cell 0
      have Lc1 : w3.cell? ⟨w.heap.size, 1, none⟩ = some (.int .i64 l) := L3.cell 1
      have Lc2 : w3.cell? ⟨w.heap.size, 2, none⟩ = some (.int .i64 m) := L3.cell 2
      have Lc3 : w3.cell? ⟨w.heap.size, 3, none⟩ = some (.slice A ps.length c) := L3.cell 3
      have Lc4 : w3.cell? ⟨w.heap.size, 4, none⟩ = some (.int .i64 b) := L3.cell 4
      have Lc5 : w3.cell? ⟨w.heap.size, 5, none⟩ = some (.int .i64 t) := L3.cell 5
      go_wp2_with fail
      refine ((unhide CS) _ _ _ (Q0_3.pr (Nat.le_refl _)) (I0_3.ir (Nat.le_refl _))).mono ?_; rintro e w4 ⟨Aa, ca, rfl, hO, hb⟩
      have s4 : w3.heap.size ≤ w4.heap.size := Below.size hb
      have B4 := below_next (Nat.le_refl _) B3 hb
      have L4 := L3.below hb L3.lt
      have Q0_4 := Q0_3.below hb
      have I0_4 := I0_3.below hb
      clear B3 L3 Q0_3 I0_3 Lc0 Lc1 Lc2 Lc3 Lc4 Lc5 hb
      rw [← HW.out] at hO ⊢
      have Wa_4 := OwnV.ints hO
      clear hO
      clear Q0_4 I0_4
      have Lc0 : w4.cell? ⟨w.heap.size, 0, none⟩ = some (.int .i64 o) := L4.cell 0
      have Lc1 : w4.cell? ⟨w.heap.size, 1, none⟩ = some (.int .i64 l) := L4.cell 1
      have Lc2 : w4.cell? ⟨w.heap.size, 2, none⟩ = some (.int .i64 m) := L4.cell 2
      have Lc3 : w4.cell? ⟨w.heap.size, 3, none⟩ = some (.slice A ps.length c) := L4.cell 3
      have Lc4 : w4.cell? ⟨w.heap.size, 4, none⟩ = some (.int .i64 b) := L4.cell 4
      have Lc5 : w4.cell? ⟨w.heap.size, 5, none⟩ = some (.int .i64 t) := L4.cell 5
      go_wp2_with fail
      refine (laws_toKnown o l m A c b t ps _ (hr.keep B4.size B4) hn).mono ?_; rintro e w5 ⟨g1, rfl, hg, hQ, hb⟩
      have s5 : w4.heap.size ≤ w5.heap.size := Below.size hb
      have B5 := below_next (Nat.le_refl _) B4 hb
      have L5 := L4.below hb L4.lt
      have Wa_5 := Wa_4.below hb
      clear B4 L4 Wa_4 Lc0 Lc1 Lc2 Lc3 Lc4 Lc5 hb
      have Q1_5 := OwnV.of_blk hQ hg hQ.lt
      clear hQ hg
      have s6 : (w5.alloc (.cells #[.int .i64 o, .int .i64 l, .int .i64 m, .slice (some ⟨g1, 0, none⟩) ps.length ps.length, .int .i64 b, .int .i64 t] 31)).heap.size = w5.heap.size + 1 := World.size_alloc _ _
      have B6 := B5.alloc B5.size (.cells #[.int .i64 o, .int .i64 l, .int .i64 m, .slice (some ⟨g1, 0, none⟩) ps.length ps.length, .int .i64 b, .int .i64 t] 31)
      have L6 := L5.alloc (.cells #[.int .i64 o, .int .i64 l, .int .i64 m, .slice (some ⟨g1, 0, none⟩) ps.length ps.length, .int .i64 b, .int .i64 t] 31)
      have Wa_6 := Wa_5.alloc (.cells #[.int .i64 o, .int .i64 l, .int .i64 m, .slice (some ⟨g1, 0, none⟩) ps.length ps.length, .int .i64 b, .int .i64 t] 31)
      have Q1_6 := Q1_5.alloc (.cells #[.int .i64 o, .int .i64 l, .int .i64 m, .slice (some ⟨g1, 0, none⟩) ps.length ps.length, .int .i64 b, .int .i64 t] 31)
      have X6 := Blk.new w5 31 #[.int .i64 o, .int .i64 l, .int .i64 m, .slice (some ⟨g1, 0, none⟩) ps.length ps.length, .int .i64 b, .int .i64 t]
      clear B5 L5 Wa_5 Q1_5
      have Lc0 : (w5.alloc (.cells #[.int .i64 o, .int .i64 l, .int .i64 m, .slice (some ⟨g1, 0, none⟩) ps.length ps.length, .int .i64 b, .int .i64 t] 31)).cell? ⟨w.heap.size, 0, none⟩ = some (.int .i64 o) := L6.cell 0
      have Lc1 : (w5.alloc (.cells #[.int .i64 o, .int .i64 l, .int .i64 m, .slice (some ⟨g1, 0, none⟩) ps.length ps.length, .int .i64 b, .int .i64 t] 31)).cell? ⟨w.heap.size, 1, none⟩ = some (.int .i64 l) := L6.cell 1
      have Lc2 : (w5.alloc (.cells #[.int .i64 o, .int .i64 l, .int .i64 m, .slice (some ⟨g1, 0, none⟩) ps.length ps.length, .int .i64 b, .int .i64 t] 31)).cell? ⟨w.heap.size, 2, none⟩ = some (.int .i64 m) := L6.cell 2
      have Lc3 : (w5.alloc (.cells #[.int .i64 o, .int .i64 l, .int .i64 m, .slice (some ⟨g1, 0, none⟩) ps.length ps.length, .int .i64 b, .int .i64 t] 31)).cell? ⟨w.heap.size, 3, none⟩ = some (.slice A ps.length c) := L6.cell 3
      have Lc4 : (w5.alloc (.cells #[.int .i64 o, .int .i64 l, .int .i64 m, .slice (some ⟨g1, 0, none⟩) ps.length ps.length, .int .i64 b, .int .i64 t] 31)).cell? ⟨w.heap.size, 4, none⟩ = some (.int .i64 b) := L6.cell 4
      have Lc5 : (w5.alloc (.cells #[.int .i64 o, .int .i64 l, .int .i64 m, .slice (some ⟨g1, 0, none⟩) ps.length ps.length, .int .i64 b, .int .i64 t] 31)).cell? ⟨w.heap.size, 5, none⟩ = some (.int .i64 t) := L6.cell 5
      have Xc0 : (w5.alloc (.cells #[.int .i64 o, .int .i64 l, .int .i64 m, .slice (some ⟨g1, 0, none⟩) ps.length ps.length, .int .i64 b, .int .i64 t] 31)).cell? ⟨w5.heap.size, 0, none⟩ = some (.int .i64 o) := X6.cell 0
      have Xc1 : (w5.alloc (.cells #[.int .i64 o, .int .i64 l, .int .i64 m, .slice (some ⟨g1, 0, none⟩) ps.length ps.length, .int .i64 b, .int .i64 t] 31)).cell? ⟨w5.heap.size, 1, none⟩ = some (.int .i64 l) := X6.cell 1
      have Xc2 : (w5.alloc (.cells #[.int .i64 o, .int .i64 l, .int .i64 m, .slice (some ⟨g1, 0, none⟩) ps.length ps.length, .int .i64 b, .int .i64 t] 31)).cell? ⟨w5.heap.size, 2, none⟩ = some (.int .i64 m) := X6.cell 2
      have Xc3 : (w5.alloc (.cells #[.int .i64 o, .int .i64 l, .int .i64 m, .slice (some ⟨g1, 0, none⟩) ps.length ps.length, .int .i64 b, .int .i64 t] 31)).cell? ⟨w5.heap.size, 3, none⟩ = some (.slice (some ⟨g1, 0, none⟩) ps.length ps.length) := X6.cell 3
      have Xc4 : (w5.alloc (.cells #[.int .i64 o, .int .i64 l, .int .i64 m, .slice (some ⟨g1, 0, none⟩) ps.length ps.length, .int .i64 b, .int .i64 t] 31)).cell? ⟨w5.heap.size, 4, none⟩ = some (.int .i64 b) := X6.cell 4
      have Xc5 : (w5.alloc (.cells #[.int .i64 o, .int .i64 l, .int .i64 m, .slice (some ⟨g1, 0, none⟩) ps.length ps.length, .int .i64 b, .int .i64 t] 31)).cell? ⟨w5.heap.size, 5, none⟩ = some (.int .i64 t) := X6.cell 5
      go_wp2_with fail
      refine (laws_toIntS A2 c2 xs _ (hr2.keep B6.size B6) hm).mono ?_; rintro e w6 ⟨h1, rfl, hI, hb⟩
      have s7 : (w5.alloc (.cells #[.int .i64 o, .int .i64 l, .int .i64 m, .slice (some ⟨g1, 0, none⟩) ps.length ps.length, .int .i64 b, .int .i64 t] 31)).heap.size ≤ w6.heap.size := Below.size hb
      have B7 := below_next (Nat.le_refl _) B6 hb
      have L7 := L6.below hb L6.lt
      have X7 := X6.below hb X6.lt
      have Wa_7 := Wa_6.below hb
      have Q1_7 := Q1_6.below hb
      clear B6 L6 X6 Wa_6 Q1_6 Lc0 Lc1 Lc2 Lc3 Lc4 Lc5 Xc0 Xc1 Xc2 Xc3 Xc4 Xc5 hb
      have I1_7 := OwnV.ints hI
      clear hI
      have Lc0 : w6.cell? ⟨w.heap.size, 0, none⟩ = some (.int .i64 o) := L7.cell 0
      have Lc1 : w6.cell? ⟨w.heap.size, 1, none⟩ = some (.int .i64 l) := L7.cell 1
      have Lc2 : w6.cell? ⟨w.heap.size, 2, none⟩ = some (.int .i64 m) := L7.cell 2
      have Lc3 : w6.cell? ⟨w.heap.size, 3, none⟩ = some (.slice A ps.length c) := L7.cell 3
      have Lc4 : w6.cell? ⟨w.heap.size, 4, none⟩ = some (.int .i64 b) := L7.cell 4
      have Lc5 : w6.cell? ⟨w.heap.size, 5, none⟩ = some (.int .i64 t) := L7.cell 5
      have Xc0 : w6.cell? ⟨w5.heap.size, 0, none⟩ = some (.int .i64 o) := X7.cell 0
      have Xc1 : w6.cell? ⟨w5.heap.size, 1, none⟩ = some (.int .i64 l) := X7.cell 1
      have Xc2 : w6.cell? ⟨w5.heap.size, 2, none⟩ = some (.int .i64 m) := X7.cell 2
      have Xc3 : w6.cell? ⟨w5.heap.size, 3, none⟩ = some (.slice (some ⟨g1, 0, none⟩) ps.length ps.length) := X7.cell 3
      have Xc4 : w6.cell? ⟨w5.heap.size, 4, none⟩ = some (.int .i64 b) := X7.cell 4
      have Xc5 : w6.cell? ⟨w5.heap.size, 5, none⟩ = some (.int .i64 t) := X7.cell 5
      go_wp2_with fail
      refine ((unhide CI) _ _ _ (Q1_7.pr (Nat.le_refl _)) (I1_7.ir (Nat.le_refl _))).mono ?_; rintro e w7 ⟨Ab, cb, rfl, hO, hb⟩
      have s8 : w6.heap.size ≤ w7.heap.size := Below.size hb
      have B8 := below_next (Nat.le_refl _) B7 hb
      have L8 := L7.below hb L7.lt
      have X8 := X7.below hb X7.lt
      have Wa_8 := Wa_7.below hb
      have Q1_8 := Q1_7.below hb
      have I1_8 := I1_7.below hb
      clear B7 L7 X7 Wa_7 Q1_7 I1_7 Lc0 Lc1 Lc2 Lc3 Lc4 Lc5 Xc0 Xc1 Xc2 Xc3 Xc4 Xc5 hb
      rw [← HW.out] at hO ⊢
      have Wb_8 := OwnV.ints hO
      clear hO
      have Lc0 : w7.cell? ⟨w.heap.size, 0, none⟩ = some (.int .i64 o) := L8.cell 0
      have Lc1 : w7.cell? ⟨w.heap.size, 1, none⟩ = some (.int .i64 l) := L8.cell 1
      have Lc2 : w7.cell? ⟨w.heap.size, 2, none⟩ = some (.int .i64 m) := L8.cell 2
      have Lc3 : w7.cell? ⟨w.heap.size, 3, none⟩ = some (.slice A ps.length c) := L8.cell 3
      have Lc4 : w7.cell? ⟨w.heap.size, 4, none⟩ = some (.int .i64 b) := L8.cell 4
      have Lc5 : w7.cell? ⟨w.heap.size, 5, none⟩ = some (.int .i64 t) := L8.cell 5
      have Xc0 : w7.cell? ⟨w5.heap.size, 0, none⟩ = some (.int .i64 o) := X8.cell 0
      have Xc1 : w7.cell? ⟨w5.heap.size, 1, none⟩ = some (.int .i64 l) := X8.cell 1
      have Xc2 : w7.cell? ⟨w5.heap.size, 2, none⟩ = some (.int .i64 m) := X8.cell 2
      have Xc3 : w7.cell? ⟨w5.heap.size, 3, none⟩ = some (.slice (some ⟨g1, 0, none⟩) ps.length ps.length) := X8.cell 3
      have Xc4 : w7.cell? ⟨w5.heap.size, 4, none⟩ = some (.int .i64 b) := X8.cell 4
      have Xc5 : w7.cell? ⟨w5.heap.size, 5, none⟩ = some (.int .i64 t) := X8.cell 5
      go_wp2_with fail
      refine (laws_eqIntS Ab Aa cb ca W _ (Wb_8.ir (Nat.le_refl _)) (Wa_8.ir (Nat.le_refl _)) (by omega)).mono ?_; rintro e w8 ⟨rfl, hb⟩
      have s9 : w7.heap.size ≤ w8.heap.size := Below.size hb
      have B9 := below_next (Nat.le_refl _) B8 hb
      have L9 := L8.below hb L8.lt
      have X9 := X8.below hb X8.lt
      have Wa_9 := Wa_8.below hb
      have Q1_9 := Q1_8.below hb
      have I1_9 := I1_8.below hb
      have Wb_9 := Wb_8.below hb
      clear B8 L8 X8 Wa_8 Q1_8 I1_8 Wb_8 Lc0 Lc1 Lc2 Lc3 Lc4 Lc5 Xc0 Xc1 Xc2 Xc3 Xc4 Xc5 hb
      have Xc0 : w8.cell? ⟨w5.heap.size, 0, none⟩ = some (.int .i64 o) := X9.cell 0
      have Xc1 : w8.cell? ⟨w5.heap.size, 1, none⟩ = some (.int .i64 l) := X9.cell 1
      have Xc2 : w8.cell? ⟨w5.heap.size, 2, none⟩ = some (.int .i64 m) := X9.cell 2
      have Xc3 : w8.cell? ⟨w5.heap.size, 3, none⟩ = some (.slice (some ⟨g1, 0, none⟩) ps.length ps.length) := X9.cell 3
      have Xc4 : w8.cell? ⟨w5.heap.size, 4, none⟩ = some (.int .i64 b) := X9.cell 4
      have Xc5 : w8.cell? ⟨w5.heap.size, 5, none⟩ = some (.int .i64 t) := X9.cell 5
      have Lc0 : w8.cell? ⟨w.heap.size, 0, none⟩ = some (.int .i64 o) := L9.cell 0
      have Lc1 : w8.cell? ⟨w.heap.size, 1, none⟩ = some (.int .i64 l) := L9.cell 1
      have Lc2 : w8.cell? ⟨w.heap.size, 2, none⟩ = some (.int .i64 m) := L9.cell 2
      have Lc3 : w8.cell? ⟨w.heap.size, 3, none⟩ = some (.slice A ps.length c) := L9.cell 3
      have Lc4 : w8.cell? ⟨w.heap.size, 4, none⟩ = some (.int .i64 b) := L9.cell 4
      have Lc5 : w8.cell? ⟨w.heap.size, 5, none⟩ = some (.int .i64 t) := L9.cell 5
      go_wp2_with fail
      have s0 : Below w8.heap.size w8 w8.drew ∧ w8.drew.cell? ⟨w5.heap.size, 0, none⟩ = some (.int .i64 o) ∧ w8.drew.cell? ⟨w5.heap.size, 1, none⟩ = some (.int .i64 l) ∧ w8.drew.cell? ⟨w5.heap.size, 2, none⟩ = some (.int .i64 m) ∧ w8.drew.cell? ⟨w5.heap.size, 3, none⟩ = some (.slice (some ⟨g1, 0, none⟩) ps.length ps.length) ∧ w8.drew.cell? ⟨w5.heap.size, 4, none⟩ = some (.int .i64 b) ∧ w8.drew.cell? ⟨w5.heap.size, 5, none⟩ = some (.int .i64 t) ∧ w8.drew.cell? ⟨w.heap.size, 0, none⟩ = some (.int .i64 o) ∧ w8.drew.cell? ⟨w.heap.size, 1, none⟩ = some (.int .i64 l) ∧ w8.drew.cell? ⟨w.heap.size, 2, none⟩ = some (.int .i64 m) ∧ w8.drew.cell? ⟨w.heap.size, 3, none⟩ = some (.slice A ps.length c) ∧ w8.drew.cell? ⟨w.heap.size, 4, none⟩ = some (.int .i64 b) ∧ w8.drew.cell? ⟨w.heap.size, 5, none⟩ = some (.int .i64 t) := ⟨(Below.refl _ _).drew, X9.cell 0, X9.cell 1, X9.cell 2, X9.cell 3, X9.cell 4, X9.cell 5, L9.cell 0, L9.cell 1, L9.cell 2, L9.cell 3, L9.cell 4, L9.cell 5⟩
      clear Xc0 Xc1 Xc2 Xc3 Xc4 Xc5 Lc0 Lc1 Lc2 Lc3 Lc4 Lc5
      refine wp_region_held_drew (S := (fun W => Below w8.heap.size w8 W ∧ W.cell? ⟨w5.heap.size, 0, none⟩ = some (.int .i64 o) ∧ W.cell? ⟨w5.heap.size, 1, none⟩ = some (.int .i64 l) ∧ W.cell? ⟨w5.heap.size, 2, none⟩ = some (.int .i64 m) ∧ W.cell? ⟨w5.heap.size, 3, none⟩ = some (.slice (some ⟨g1, 0, none⟩) ps.length ps.length) ∧ W.cell? ⟨w5.heap.size, 4, none⟩ = some (.int .i64 b) ∧ W.cell? ⟨w5.heap.size, 5, none⟩ = some (.int .i64 t) ∧ W.cell? ⟨w.heap.size, 0, none⟩ = some (.int .i64 o) ∧ W.cell? ⟨w.heap.size, 1, none⟩ = some (.int .i64 l) ∧ W.cell? ⟨w.heap.size, 2, none⟩ = some (.int .i64 m) ∧ W.cell? ⟨w.heap.size, 3, none⟩ = some (.slice A ps.length c) ∧ W.cell? ⟨w.heap.size, 4, none⟩ = some (.int .i64 b) ∧ W.cell? ⟨w.heap.size, 5, none⟩ = some (.int .i64 t))) (by kernel_rfl) (by first | assumption | exact s0 | exact keep12 (by assumption) (by assumption)) (fun hHeld => ?_)
      refine wpAnyH_take (i := 0) (oi := { dst := some 52, op := Op.load 31 (Operand.tmp 8), type := 31, pos := "exact.go:1567", after := #[], guard := none }) (v := ?_) rfl (by kernel_rfl) (by kernel_rfl) (by kernel_rfl) (fun _ _ _ h => h) (Or.inl ⟨by rfl, ?_⟩) (by assumption) ?_; rotate_left
      · intro W hW; (try dsimp only at hW); go_simp;  try (with_reducible rfl)
      try simp only [Act.put, List.setIfInBounds_toArray, List.set_cons_zero, List.set_cons_succ]
      refine wpAnyH_take (i := 1) (oi := { dst := some 53, op := Op.load 26 (Operand.tmp 2), type := 26, pos := "exact.go:1567", after := #[], guard := none }) (v := ?_) rfl (by kernel_rfl) (by kernel_rfl) (by kernel_rfl) (fun _ _ _ h => h) (Or.inl ⟨by rfl, ?_⟩) (by assumption) ?_; rotate_left
      · intro W hW; (try dsimp only at hW); go_simp;  try (with_reducible rfl)
      try simp only [Act.put, List.setIfInBounds_toArray, List.set_cons_zero, List.set_cons_succ]
      refine wpAnyH_ready (rs := [2]) (by kernel_rfl) (by simp) (AllReadyH.cons (i := 2) (o := { dst := some 54, op := Op.call { callee := Callee.value (Operand.func 16), args := #[Operand.tmp 53], argTypes := #[26] }, type := 31, pos := "exact.go:1567", after := #[{ on := 1, ground := Ground.data }], guard := none }) rfl (fun K hK => ?_) AllReadyH.nil)
      go_simp
      refine (laws_toKnown o l m A c b t ps _ (hr.keep (Nat.le_trans B9.size hHeld.1.size) (below_next (Nat.le_refl _) B9 hHeld.1)) hn).mono ?_; rintro e w' ⟨g8, rfl, hg8, hQ8, hb⟩
      try go_wp2_with fail
      refine hK.out _ _ (by (try dsimp only); first | assumption | exact s0 | exact keep12 (by assumption) (by assumption)) (fun hHeld => ?_)
      clear hK K
      try simp only [Act.put, List.setIfInBounds_toArray, List.set_cons_zero, List.set_cons_succ]
      refine wpAnyH_ready (rs := [3]) (by kernel_rfl) (by simp) (AllReadyH.cons (i := 3) (o := { dst := some 55, op := Op.call { callee := Callee.value (Operand.func 18), args := #[Operand.tmp 52, Operand.tmp 54], argTypes := #[31, 31] }, type := 4, pos := "exact.go:1567", after := #[{ on := 0, ground := Ground.data }, { on := 2, ground := Ground.data }, { on := 2, ground := Ground.chain }], guard := none }) rfl (fun K hK => ?_) AllReadyH.nil)
      go_simp
      have XQ := Q1_9.below hHeld.1
      refine (laws_eqKnown o l m (some ⟨g1, 0, none⟩) (some ⟨g8, 0, none⟩) ps.length ps.length b t ps _ (XQ.pr (Nat.le_refl _)) (PR.of_blk hQ8 hQ8.lt) hn).mono ?_; rintro e wq ⟨rfl, hb⟩
      try go_wp2_with fail
      refine hK.out _ _ (by (try dsimp only); first | assumption | exact s0 | exact keep12 (by assumption) (by assumption)) (fun hHeld => ?_)
      clear hK K
      try simp only [Act.put, List.setIfInBounds_toArray, List.set_cons_zero, List.set_cons_succ]
      refine wpAnyH_take (i := 4) (oi := { dst := some 56, op := Op.unOp UnOp.not 4 (Operand.tmp 55), type := 4, pos := "exact.go:1567", after := #[{ on := 3, ground := Ground.data }], guard := none }) (v := ?_) rfl (by kernel_rfl) (by kernel_rfl) (by kernel_rfl) (fun _ _ _ h => h) (Or.inl ⟨by rfl, ?_⟩) (by assumption) ?_; rotate_left
      · intro W hW; (try dsimp only at hW); go_simp;  try (with_reducible rfl)
      try simp only [Act.put, List.setIfInBounds_toArray, List.set_cons_zero, List.set_cons_succ]
      refine wpAnyH_done (by kernel_rfl) ?_ _
      have hE := hHeld.1
      clear hHeld s0
      have s10 : w8.heap.size ≤ wq.heap.size := Below.size hE
      have B10 := below_next (Nat.le_refl _) B9 hE
      have L10 := L9.below hE L9.lt
      have X10 := X9.below hE X9.lt
      have Wa_10 := Wa_9.below hE
      have Q1_10 := Q1_9.below hE
      have I1_10 := I1_9.below hE
      have Wb_10 := Wb_9.below hE
      clear B9 L9 X9 Wa_9 Q1_9 I1_9 Wb_9 hE
      have Lc0 : wq.cell? ⟨w.heap.size, 0, none⟩ = some (.int .i64 o) := L10.cell 0
      have Lc1 : wq.cell? ⟨w.heap.size, 1, none⟩ = some (.int .i64 l) := L10.cell 1
      have Lc2 : wq.cell? ⟨w.heap.size, 2, none⟩ = some (.int .i64 m) := L10.cell 2
      have Lc3 : wq.cell? ⟨w.heap.size, 3, none⟩ = some (.slice A ps.length c) := L10.cell 3
      have Lc4 : wq.cell? ⟨w.heap.size, 4, none⟩ = some (.int .i64 b) := L10.cell 4
      have Lc5 : wq.cell? ⟨w.heap.size, 5, none⟩ = some (.int .i64 t) := L10.cell 5
      have Xc0 : wq.cell? ⟨w5.heap.size, 0, none⟩ = some (.int .i64 o) := X10.cell 0
      have Xc1 : wq.cell? ⟨w5.heap.size, 1, none⟩ = some (.int .i64 l) := X10.cell 1
      have Xc2 : wq.cell? ⟨w5.heap.size, 2, none⟩ = some (.int .i64 m) := X10.cell 2
      have Xc3 : wq.cell? ⟨w5.heap.size, 3, none⟩ = some (.slice (some ⟨g1, 0, none⟩) ps.length ps.length) := X10.cell 3
      have Xc4 : wq.cell? ⟨w5.heap.size, 4, none⟩ = some (.int .i64 b) := X10.cell 4
      have Xc5 : wq.cell? ⟨w5.heap.size, 5, none⟩ = some (.int .i64 t) := X10.cell 5
      go_wp2_with fail
      refine (laws_toIntS A2 c2 xs _ (hr2.keep B10.size B10) hm).mono ?_; rintro e w9 ⟨h9, rfl, hI, hb⟩
      have s11 : wq.heap.size ≤ w9.heap.size := Below.size hb
      have B11 := below_next (Nat.le_refl _) B10 hb
      have L11 := L10.below hb L10.lt
      have X11 := X10.below hb X10.lt
      have Wa_11 := Wa_10.below hb
      have Q1_11 := Q1_10.below hb
      have I1_11 := I1_10.below hb
      have Wb_11 := Wb_10.below hb
      clear B10 L10 X10 Wa_10 Q1_10 I1_10 Wb_10 Lc0 Lc1 Lc2 Lc3 Lc4 Lc5 Xc0 Xc1 Xc2 Xc3 Xc4 Xc5 hb
      have Lc0 : w9.cell? ⟨w.heap.size, 0, none⟩ = some (.int .i64 o) := L11.cell 0
      have Lc1 : w9.cell? ⟨w.heap.size, 1, none⟩ = some (.int .i64 l) := L11.cell 1
      have Lc2 : w9.cell? ⟨w.heap.size, 2, none⟩ = some (.int .i64 m) := L11.cell 2
      have Lc3 : w9.cell? ⟨w.heap.size, 3, none⟩ = some (.slice A ps.length c) := L11.cell 3
      have Lc4 : w9.cell? ⟨w.heap.size, 4, none⟩ = some (.int .i64 b) := L11.cell 4
      have Lc5 : w9.cell? ⟨w.heap.size, 5, none⟩ = some (.int .i64 t) := L11.cell 5
      have Xc0 : w9.cell? ⟨w5.heap.size, 0, none⟩ = some (.int .i64 o) := X11.cell 0
      have Xc1 : w9.cell? ⟨w5.heap.size, 1, none⟩ = some (.int .i64 l) := X11.cell 1
      have Xc2 : w9.cell? ⟨w5.heap.size, 2, none⟩ = some (.int .i64 m) := X11.cell 2
      have Xc3 : w9.cell? ⟨w5.heap.size, 3, none⟩ = some (.slice (some ⟨g1, 0, none⟩) ps.length ps.length) := X11.cell 3
      have Xc4 : w9.cell? ⟨w5.heap.size, 4, none⟩ = some (.int .i64 b) := X11.cell 4
      have Xc5 : w9.cell? ⟨w5.heap.size, 5, none⟩ = some (.int .i64 t) := X11.cell 5
      go_wp2_with fail
      refine (laws_eqIntS (some ⟨h1, 0, none⟩) (some ⟨h9, 0, none⟩) xs.length xs.length xs _ (I1_11.ir (Nat.le_refl _)) ((OwnI.ir hI) (Nat.le_refl _)) (by omega)).mono ?_; rintro e w10 ⟨rfl, hb⟩
      have s12 : w9.heap.size ≤ w10.heap.size := Below.size hb
      have B12 := below_next (Nat.le_refl _) B11 hb
      have L12 := L11.below hb L11.lt
      have X12 := X11.below hb X11.lt
      have Wa_12 := Wa_11.below hb
      have Q1_12 := Q1_11.below hb
      have I1_12 := I1_11.below hb
      have Wb_12 := Wb_11.below hb
      clear B11 L11 X11 Wa_11 Q1_11 I1_11 Wb_11 Lc0 Lc1 Lc2 Lc3 Lc4 Lc5 Xc0 Xc1 Xc2 Xc3 Xc4 Xc5 hb hI
      have Xc0 : w10.cell? ⟨w5.heap.size, 0, none⟩ = some (.int .i64 o) := X12.cell 0
      have Xc1 : w10.cell? ⟨w5.heap.size, 1, none⟩ = some (.int .i64 l) := X12.cell 1
      have Xc2 : w10.cell? ⟨w5.heap.size, 2, none⟩ = some (.int .i64 m) := X12.cell 2
      have Xc3 : w10.cell? ⟨w5.heap.size, 3, none⟩ = some (.slice (some ⟨g1, 0, none⟩) ps.length ps.length) := X12.cell 3
      have Xc4 : w10.cell? ⟨w5.heap.size, 4, none⟩ = some (.int .i64 b) := X12.cell 4
      have Xc5 : w10.cell? ⟨w5.heap.size, 5, none⟩ = some (.int .i64 t) := X12.cell 5
      go_wp2_with fail
      refine (mark_known o l m (some ⟨g1, 0, none⟩) ps.length b t ps _ _ _ Q1_12 (by omega)).mono ?_; rintro e wm1 ⟨rfl, hM, hO⟩
      have s13 := Only.size hO
      have B13 := Only.below B12 hO (by omega) B12.size
      have L13 := Only.blk hO L12 (by decide)
      have X13 := Only.blk hO X12 (by decide)
      have Wa_13 := by first | exact Only.own_ne hO Wa_12 (by decide) | exact Only.own hO Wa_12 (by first | exact .inl (by omega) | exact .inr (by omega))
      have Q1_13 := hM
      have I1_13 := by first | exact Only.own_ne hO I1_12 (by decide) | exact Only.own hO I1_12 (by first | exact .inl (by omega) | exact .inr (by omega))
      have Wb_13 := by first | exact Only.own_ne hO Wb_12 (by decide) | exact Only.own hO Wb_12 (by first | exact .inl (by omega) | exact .inr (by omega))
      clear B12 L12 X12 Wa_12 Q1_12 I1_12 Wb_12 Xc0 Xc1 Xc2 Xc3 Xc4 Xc5 hO
      go_wp2_with fail
      rw [HK2.out]
      refine (mark_ints (some ⟨h1, 0, none⟩) xs.length xs (2 * ps.length) _ _ _ I1_13 (by omega) (by omega)).mono ?_; rintro e wm2 ⟨rfl, hM, hO⟩
      rw [← HK2.out]
      clear hM I1_13
      have s14 := Only.size hO
      have B14 := Only.below B13 hO (by omega) B13.size
      have L14 := Only.blk hO L13 (by decide)
      have X14 := Only.blk hO X13 (by decide)
      have Wa_14 := by first | exact Only.own_ne hO Wa_13 (by decide) | exact Only.own hO Wa_13 (by first | exact .inl (by omega) | exact .inr (by omega))
      have Q1_14 := by first | exact Only.own_ne hO Q1_13 (by decide) | exact Only.own hO Q1_13 (by first | exact .inl (by omega) | exact .inr (by omega))
      have Wb_14 := by first | exact Only.own_ne hO Wb_13 (by decide) | exact Only.own hO Wb_13 (by first | exact .inl (by omega) | exact .inr (by omega))
      clear B13 L13 X13 Wa_13 Q1_13 Wb_13 hO
      have Lc0 : wm2.cell? ⟨w.heap.size, 0, none⟩ = some (.int .i64 o) := L14.cell 0
      have Lc1 : wm2.cell? ⟨w.heap.size, 1, none⟩ = some (.int .i64 l) := L14.cell 1
      have Lc2 : wm2.cell? ⟨w.heap.size, 2, none⟩ = some (.int .i64 m) := L14.cell 2
      have Lc3 : wm2.cell? ⟨w.heap.size, 3, none⟩ = some (.slice A ps.length c) := L14.cell 3
      have Lc4 : wm2.cell? ⟨w.heap.size, 4, none⟩ = some (.int .i64 b) := L14.cell 4
      have Lc5 : wm2.cell? ⟨w.heap.size, 5, none⟩ = some (.int .i64 t) := L14.cell 5
      have Xc0 : wm2.cell? ⟨w5.heap.size, 0, none⟩ = some (.int .i64 o) := X14.cell 0
      have Xc1 : wm2.cell? ⟨w5.heap.size, 1, none⟩ = some (.int .i64 l) := X14.cell 1
      have Xc2 : wm2.cell? ⟨w5.heap.size, 2, none⟩ = some (.int .i64 m) := X14.cell 2
      have Xc3 : wm2.cell? ⟨w5.heap.size, 3, none⟩ = some (.slice (some ⟨g1, 0, none⟩) ps.length ps.length) := X14.cell 3
      have Xc4 : wm2.cell? ⟨w5.heap.size, 4, none⟩ = some (.int .i64 b) := X14.cell 4
      have Xc5 : wm2.cell? ⟨w5.heap.size, 5, none⟩ = some (.int .i64 t) := X14.cell 5
      go_wp2_with fail
      refine (laws_eqIntS Ab Aa cb ca W _ (Wb_14.ir (Nat.le_refl _)) (Wa_14.ir (Nat.le_refl _)) (by omega)).mono ?_; rintro e w11 ⟨rfl, hb⟩
      have s15 : wm2.heap.size ≤ w11.heap.size := Below.size hb
      have B15 := below_next (Nat.le_refl _) B14 hb
      have L15 := L14.below hb L14.lt
      have X15 := X14.below hb X14.lt
      have Wa_15 := Wa_14.below hb
      have Q1_15 := Q1_14.below hb
      have Wb_15 := Wb_14.below hb
      clear B14 L14 X14 Wa_14 Q1_14 Wb_14 Lc0 Lc1 Lc2 Lc3 Lc4 Lc5 Xc0 Xc1 Xc2 Xc3 Xc4 Xc5 hb
      go_wp2_with fail
      have CM := mark_ints Ab cb W 0 _ _ _ Wb_15 (by omega) (by omega)
      rw [show (1 + ((0 : Nat) : Int)) = 1 from rfl] at CM
      refine CM.mono ?_; rintro e wm3 ⟨rfl, hM, hO⟩
      have hM := hM rfl
      clear CM
      have s16 := Only.size hO
      have B16 := Only.below B15 hO (by omega) B15.size
      have L16 := Only.blk hO L15 (by decide)
      have X16 := Only.blk hO X15 (by decide)
      have Wa_16 := by first | exact Only.own_ne hO Wa_15 (by decide) | exact Only.own hO Wa_15 (by first | exact .inl (by omega) | exact .inr (by omega))
      have Q1_16 := by first | exact Only.own_ne hO Q1_15 (by decide) | exact Only.own hO Q1_15 (by first | exact .inl (by omega) | exact .inr (by omega))
      have Wb_16 := hM
      clear B15 L15 X15 Wa_15 Q1_15 Wb_15 hO
      go_wp2_with fail
      refine (held_ints Ab W.length cb _ _ _ Wb_16 (by omega)).mono ?_; rintro e w9 ⟨rfl, rfl⟩
      have Lc0 : wm3.cell? ⟨w.heap.size, 0, none⟩ = some (.int .i64 o) := L16.cell 0
      have Lc1 : wm3.cell? ⟨w.heap.size, 1, none⟩ = some (.int .i64 l) := L16.cell 1
      have Lc2 : wm3.cell? ⟨w.heap.size, 2, none⟩ = some (.int .i64 m) := L16.cell 2
      have Lc3 : wm3.cell? ⟨w.heap.size, 3, none⟩ = some (.slice A ps.length c) := L16.cell 3
      have Lc4 : wm3.cell? ⟨w.heap.size, 4, none⟩ = some (.int .i64 b) := L16.cell 4
      have Lc5 : wm3.cell? ⟨w.heap.size, 5, none⟩ = some (.int .i64 t) := L16.cell 5
      clear Lc0 Lc1 Lc2 Lc3 Lc4 Lc5
      have Lc0 : wm3.cell? ⟨w.heap.size, 0, none⟩ = some (.int .i64 o) := L16.cell 0
      have Lc1 : wm3.cell? ⟨w.heap.size, 1, none⟩ = some (.int .i64 l) := L16.cell 1
      have Lc2 : wm3.cell? ⟨w.heap.size, 2, none⟩ = some (.int .i64 m) := L16.cell 2
      have Lc3 : wm3.cell? ⟨w.heap.size, 3, none⟩ = some (.slice A ps.length c) := L16.cell 3
      have Lc4 : wm3.cell? ⟨w.heap.size, 4, none⟩ = some (.int .i64 b) := L16.cell 4
      have Lc5 : wm3.cell? ⟨w.heap.size, 5, none⟩ = some (.int .i64 t) := L16.cell 5
      have Xc0 : wm3.cell? ⟨w5.heap.size, 0, none⟩ = some (.int .i64 o) := X16.cell 0
      have Xc1 : wm3.cell? ⟨w5.heap.size, 1, none⟩ = some (.int .i64 l) := X16.cell 1
      have Xc2 : wm3.cell? ⟨w5.heap.size, 2, none⟩ = some (.int .i64 m) := X16.cell 2
      have Xc3 : wm3.cell? ⟨w5.heap.size, 3, none⟩ = some (.slice (some ⟨g1, 0, none⟩) ps.length ps.length) := X16.cell 3
      have Xc4 : wm3.cell? ⟨w5.heap.size, 4, none⟩ = some (.int .i64 b) := X16.cell 4
      have Xc5 : wm3.cell? ⟨w5.heap.size, 5, none⟩ = some (.int .i64 t) := X16.cell 5
      go_wp2_with fail
      refine (laws_toKnown o l m A c b t ps _ (hr.keep B16.size B16) hn).mono ?_; rintro e w12 ⟨g2, rfl, hg, hQ, hb⟩
      have s17 : wm3.heap.size ≤ w12.heap.size := Below.size hb
      have B17 := below_next (Nat.le_refl _) B16 hb
      have L17 := L16.below hb L16.lt
      have X17 := X16.below hb X16.lt
      have Wa_17 := Wa_16.below hb
      have Q1_17 := Q1_16.below hb
      have Wb_17 := Wb_16.below hb
      clear B16 L16 X16 Wa_16 Q1_16 Wb_16 Lc0 Lc1 Lc2 Lc3 Lc4 Lc5 Xc0 Xc1 Xc2 Xc3 Xc4 Xc5 hb
      have Q2_17 := OwnV.of_blk hQ hg hQ.lt
      clear hQ hg
      have Lc0 : w12.cell? ⟨w.heap.size, 0, none⟩ = some (.int .i64 o) := L17.cell 0
      have Lc1 : w12.cell? ⟨w.heap.size, 1, none⟩ = some (.int .i64 l) := L17.cell 1
      have Lc2 : w12.cell? ⟨w.heap.size, 2, none⟩ = some (.int .i64 m) := L17.cell 2
      have Lc3 : w12.cell? ⟨w.heap.size, 3, none⟩ = some (.slice A ps.length c) := L17.cell 3
      have Lc4 : w12.cell? ⟨w.heap.size, 4, none⟩ = some (.int .i64 b) := L17.cell 4
      have Lc5 : w12.cell? ⟨w.heap.size, 5, none⟩ = some (.int .i64 t) := L17.cell 5
      have Xc0 : w12.cell? ⟨w5.heap.size, 0, none⟩ = some (.int .i64 o) := X17.cell 0
      have Xc1 : w12.cell? ⟨w5.heap.size, 1, none⟩ = some (.int .i64 l) := X17.cell 1
      have Xc2 : w12.cell? ⟨w5.heap.size, 2, none⟩ = some (.int .i64 m) := X17.cell 2
      have Xc3 : w12.cell? ⟨w5.heap.size, 3, none⟩ = some (.slice (some ⟨g1, 0, none⟩) ps.length ps.length) := X17.cell 3
      have Xc4 : w12.cell? ⟨w5.heap.size, 4, none⟩ = some (.int .i64 b) := X17.cell 4
      have Xc5 : w12.cell? ⟨w5.heap.size, 5, none⟩ = some (.int .i64 t) := X17.cell 5
      go_wp2_with fail
      refine (laws_toIntS A2 c2 xs _ (hr2.keep B17.size B17) hm).mono ?_; rintro e w13 ⟨h2, rfl, hI, hb⟩
      have s18 : w12.heap.size ≤ w13.heap.size := Below.size hb
      have B18 := below_next (Nat.le_refl _) B17 hb
      have L18 := L17.below hb L17.lt
      have X18 := X17.below hb X17.lt
      have Wa_18 := Wa_17.below hb
      have Q1_18 := Q1_17.below hb
      have Wb_18 := Wb_17.below hb
      have Q2_18 := Q2_17.below hb
      clear B17 L17 X17 Wa_17 Q1_17 Wb_17 Q2_17 Lc0 Lc1 Lc2 Lc3 Lc4 Lc5 Xc0 Xc1 Xc2 Xc3 Xc4 Xc5 hb
      have I2_18 := OwnV.ints hI
      clear hI
      have Lc0 : w13.cell? ⟨w.heap.size, 0, none⟩ = some (.int .i64 o) := L18.cell 0
      have Lc1 : w13.cell? ⟨w.heap.size, 1, none⟩ = some (.int .i64 l) := L18.cell 1
      have Lc2 : w13.cell? ⟨w.heap.size, 2, none⟩ = some (.int .i64 m) := L18.cell 2
      have Lc3 : w13.cell? ⟨w.heap.size, 3, none⟩ = some (.slice A ps.length c) := L18.cell 3
      have Lc4 : w13.cell? ⟨w.heap.size, 4, none⟩ = some (.int .i64 b) := L18.cell 4
      have Lc5 : w13.cell? ⟨w.heap.size, 5, none⟩ = some (.int .i64 t) := L18.cell 5
      have Xc0 : w13.cell? ⟨w5.heap.size, 0, none⟩ = some (.int .i64 o) := X18.cell 0
      have Xc1 : w13.cell? ⟨w5.heap.size, 1, none⟩ = some (.int .i64 l) := X18.cell 1
      have Xc2 : w13.cell? ⟨w5.heap.size, 2, none⟩ = some (.int .i64 m) := X18.cell 2
      have Xc3 : w13.cell? ⟨w5.heap.size, 3, none⟩ = some (.slice (some ⟨g1, 0, none⟩) ps.length ps.length) := X18.cell 3
      have Xc4 : w13.cell? ⟨w5.heap.size, 4, none⟩ = some (.int .i64 b) := X18.cell 4
      have Xc5 : w13.cell? ⟨w5.heap.size, 5, none⟩ = some (.int .i64 t) := X18.cell 5
      go_wp2_with fail
      refine ((unhide CI) _ _ _ (Q2_18.pr (Nat.le_refl _)) (I2_18.ir (Nat.le_refl _))).mono ?_; rintro e w14 ⟨Ad, cd, rfl, hO, hb⟩
      have s19 : w13.heap.size ≤ w14.heap.size := Below.size hb
      have B19 := below_next (Nat.le_refl _) B18 hb
      have L19 := L18.below hb L18.lt
      have X19 := X18.below hb X18.lt
      have Wa_19 := Wa_18.below hb
      have Q1_19 := Q1_18.below hb
      have Wb_19 := Wb_18.below hb
      have Q2_19 := Q2_18.below hb
      have I2_19 := I2_18.below hb
      clear B18 L18 X18 Wa_18 Q1_18 Wb_18 Q2_18 I2_18 Lc0 Lc1 Lc2 Lc3 Lc4 Lc5 Xc0 Xc1 Xc2 Xc3 Xc4 Xc5 hb
      rw [← HW.out] at hO ⊢
      have Wd_19 := OwnV.ints hO
      clear hO
      clear Q2_19 I2_19
      have Lc0 : w14.cell? ⟨w.heap.size, 0, none⟩ = some (.int .i64 o) := L19.cell 0
      have Lc1 : w14.cell? ⟨w.heap.size, 1, none⟩ = some (.int .i64 l) := L19.cell 1
      have Lc2 : w14.cell? ⟨w.heap.size, 2, none⟩ = some (.int .i64 m) := L19.cell 2
      have Lc3 : w14.cell? ⟨w.heap.size, 3, none⟩ = some (.slice A ps.length c) := L19.cell 3
      have Lc4 : w14.cell? ⟨w.heap.size, 4, none⟩ = some (.int .i64 b) := L19.cell 4
      have Lc5 : w14.cell? ⟨w.heap.size, 5, none⟩ = some (.int .i64 t) := L19.cell 5
      have Xc0 : w14.cell? ⟨w5.heap.size, 0, none⟩ = some (.int .i64 o) := X19.cell 0
      have Xc1 : w14.cell? ⟨w5.heap.size, 1, none⟩ = some (.int .i64 l) := X19.cell 1
      have Xc2 : w14.cell? ⟨w5.heap.size, 2, none⟩ = some (.int .i64 m) := X19.cell 2
      have Xc3 : w14.cell? ⟨w5.heap.size, 3, none⟩ = some (.slice (some ⟨g1, 0, none⟩) ps.length ps.length) := X19.cell 3
      have Xc4 : w14.cell? ⟨w5.heap.size, 4, none⟩ = some (.int .i64 b) := X19.cell 4
      have Xc5 : w14.cell? ⟨w5.heap.size, 5, none⟩ = some (.int .i64 t) := X19.cell 5
      go_wp2_with fail
      refine (laws_eqIntS Ad Aa cd ca W _ (Wd_19.ir (Nat.le_refl _)) (Wa_19.ir (Nat.le_refl _)) (by omega)).mono ?_; rintro e w15 ⟨rfl, hb⟩
      have s20 : w14.heap.size ≤ w15.heap.size := Below.size hb
      have B20 := below_next (Nat.le_refl _) B19 hb
      have L20 := L19.below hb L19.lt
      have X20 := X19.below hb X19.lt
      have Wa_20 := Wa_19.below hb
      have Q1_20 := Q1_19.below hb
      have Wb_20 := Wb_19.below hb
      have Wd_20 := Wd_19.below hb
      clear B19 L19 X19 Wa_19 Q1_19 Wb_19 Wd_19 Lc0 Lc1 Lc2 Lc3 Lc4 Lc5 Xc0 Xc1 Xc2 Xc3 Xc4 Xc5 hb
      go_wp2_with fail
      refine (held_ints Ab W.length cb _ _ _ Wb_20 (by omega)).mono ?_; rintro e w9 ⟨rfl, rfl⟩
      go_wp2_with fail
      go_ret
      exact ⟨rfl, B20⟩
    · have CZ := hide (fun wx => by have := laws_szKnown o l m A ps.length c b t wx (by omega); rwa [if_neg hn] at this)
      have n3 : ¬ (1048576 : Int) < (xs.length : Int) := by omega
      go_enter Try.func6, Try.ntmps6
      go_wp2_with fail
      refine ((unhide CZ) _).mono ?_; rintro e w1 ⟨rfl, hb1⟩
      go_wp2_with fail
      go_ret
      exact ⟨rfl, below_next (Nat.le_refl _) B0 hb1⟩
  · have n3 : (1048576 : Int) < (xs.length : Int) := by omega
    go_enter Try.func6, Try.ntmps6
    go_wp2_with fail
    go_ret
    exact ⟨rfl, B0⟩

end Go.Proofs.Ytegfcpdkehgdpaa

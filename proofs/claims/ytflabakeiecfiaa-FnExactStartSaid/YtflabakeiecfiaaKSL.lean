/- The walk of the exact law on Start. Conditions: each field is an int. -/
import Derived.Test.YtflabakeiecfiaaKS
import Derived.Test.YtflabakeiecfiaaT
namespace Go.Proofs.Ytflabakeiecfiaa
open Go.RowKit

theorem mark0 (o l m b t : Int) (w : World) : Calls Try.prog 22 #[kv o l m none 0 0 b t, .int .i64 1] w fun e w' => e = .returned (.int .i64 1) ∧ Below w.heap.size w w' :=
  (laws_markKnown o l m none 0 b t [] 0 w (.inl rfl) (by simp)).mono fun _ _ ⟨h1, _, h3⟩ => ⟨h1, ⟨h3.os, h3.tape, h3.output, h3.size, fun i hi => h3.block i hi (by simp [blkOf])⟩⟩
theorem held0 (o l m b t : Int) (w : World) : Calls Try.prog 23 #[kv o l m none 0 0 b t, .int .i64 1] w fun e w' => e = .returned (.int .i64 1) ∧ Below w.heap.size w w' :=
  (laws_heldKnown o l m none 0 0 b t w (fun h => absurd h (by simp [pmarks])) (by omega)).mono fun _ _ ⟨h1, h3⟩ => ⟨h1, h3⟩
theorem eq0 (o l m b t : Int) (w : World) : Calls Try.prog 18 #[kv o l m none 0 0 b t, kv o l m none 0 0 b t] w fun e w' => e = .returned (.bool true) ∧ Below w.heap.size w w' :=
  laws_eqKnown o l m none none 0 0 b t [] w (fun h => absurd h (by simp)) (fun h => absurd h (by simp)) (by simp)

set_option maxRecDepth 100000 in
set_option maxHeartbeats 4000000 in
theorem law_FnExactStart (o l m : Int) (_ho : -9223372036854775808 ≤ o ∧ o ≤ 9223372036854775807) (_hl : -9223372036854775808 ≤ l ∧ l ≤ 9223372036854775807) (_hm : -9223372036854775808 ≤ m ∧ m ≤ 9223372036854775807) (w : World) :
    Calls Try.prog 4 #[sv o l m] w fun e w' => e = .returned (.bool true) ∧ Below w.heap.size w w' := by
  have CS : ∀ wx, Calls Try.prog 19 #[sv o l m] wx fun e w' => e = .returned (.tuple #[startV o l m, .bool (Sx.setOK o l m)]) ∧ Below wx.heap.size wx w' := fun wx => spec_Start o l m wx
  have CI : ∀ wx, Calls Try.prog 21 #[sv o l m] wx fun e w' => e = .returned (.tuple #[startV o l m, .bool (Sx.setOK o l m)]) ∧ Below wx.heap.size wx w' := fun wx => impl_Start o l m wx
  have B0 : Below w.heap.size w (w.alloc (.cells #[.int .i64 o, .int .i64 l, .int .i64 m] 23)) := (Below.refl _ _).alloc (Nat.le_refl _) _
  have S0 := Blk.new w 23 #[.int .i64 o, .int .i64 l, .int .i64 m]
  cases hk : Sx.setOK o l m
  · have HV := hide (start_no hk)
    rw [hk, HV.out] at CS CI
    have CS := hide CS
    have CI := hide CI
    clear hk HV
    go_enter Try.func4, Try.ntmps4
    go_wp2_with fail
    refine (laws_toSetting _ _ _ _).mono ?_; rintro e w1 ⟨rfl, hb⟩
    have B1 := below_next (Nat.le_refl _) B0 hb
    have S1 := S0.below hb S0.lt
    clear B0 hb S0
    have Sc0 : w1.cell? ⟨w.heap.size, 0, none⟩ = some (.int .i64 o) := S1.cell 0
    have Sc1 : w1.cell? ⟨w.heap.size, 1, none⟩ = some (.int .i64 l) := S1.cell 1
    have Sc2 : w1.cell? ⟨w.heap.size, 2, none⟩ = some (.int .i64 m) := S1.cell 2
    go_wp2_with fail
    refine ((unhide CS) _).mono ?_; rintro e w2 ⟨rfl, hb⟩
    have B2 := below_next (Nat.le_refl _) B1 hb
    have S2 := S1.below hb S1.lt
    clear B1 hb S1 Sc0 Sc1 Sc2
    have B3 := B2.alloc B2.size (.cells #[.int .i64 0, .int .i64 0, .int .i64 0, .slice none 0 0, .int .i64 0, .int .i64 0] 32)
    have S3 := S2.alloc (.cells #[.int .i64 0, .int .i64 0, .int .i64 0, .slice none 0 0, .int .i64 0, .int .i64 0] 32)
    have X3 := Blk.new w2 32 #[.int .i64 0, .int .i64 0, .int .i64 0, .slice none 0 0, .int .i64 0, .int .i64 0]
    clear B2 S2
    have Sc0 : (w2.alloc (.cells #[.int .i64 0, .int .i64 0, .int .i64 0, .slice none 0 0, .int .i64 0, .int .i64 0] 32)).cell? ⟨w.heap.size, 0, none⟩ = some (.int .i64 o) := S3.cell 0
    have Sc1 : (w2.alloc (.cells #[.int .i64 0, .int .i64 0, .int .i64 0, .slice none 0 0, .int .i64 0, .int .i64 0] 32)).cell? ⟨w.heap.size, 1, none⟩ = some (.int .i64 l) := S3.cell 1
    have Sc2 : (w2.alloc (.cells #[.int .i64 0, .int .i64 0, .int .i64 0, .slice none 0 0, .int .i64 0, .int .i64 0] 32)).cell? ⟨w.heap.size, 2, none⟩ = some (.int .i64 m) := S3.cell 2
    have Xc0 : (w2.alloc (.cells #[.int .i64 0, .int .i64 0, .int .i64 0, .slice none 0 0, .int .i64 0, .int .i64 0] 32)).cell? ⟨w2.heap.size, 0, none⟩ = some (.int .i64 0) := X3.cell 0
    have Xc1 : (w2.alloc (.cells #[.int .i64 0, .int .i64 0, .int .i64 0, .slice none 0 0, .int .i64 0, .int .i64 0] 32)).cell? ⟨w2.heap.size, 1, none⟩ = some (.int .i64 0) := X3.cell 1
    have Xc2 : (w2.alloc (.cells #[.int .i64 0, .int .i64 0, .int .i64 0, .slice none 0 0, .int .i64 0, .int .i64 0] 32)).cell? ⟨w2.heap.size, 2, none⟩ = some (.int .i64 0) := X3.cell 2
    have Xc3 : (w2.alloc (.cells #[.int .i64 0, .int .i64 0, .int .i64 0, .slice none 0 0, .int .i64 0, .int .i64 0] 32)).cell? ⟨w2.heap.size, 3, none⟩ = some (.slice none 0 0) := X3.cell 3
    have Xc4 : (w2.alloc (.cells #[.int .i64 0, .int .i64 0, .int .i64 0, .slice none 0 0, .int .i64 0, .int .i64 0] 32)).cell? ⟨w2.heap.size, 4, none⟩ = some (.int .i64 0) := X3.cell 4
    have Xc5 : (w2.alloc (.cells #[.int .i64 0, .int .i64 0, .int .i64 0, .slice none 0 0, .int .i64 0, .int .i64 0] 32)).cell? ⟨w2.heap.size, 5, none⟩ = some (.int .i64 0) := X3.cell 5
    go_wp2_with fail
    refine (laws_toSetting _ _ _ _).mono ?_; rintro e w4 ⟨rfl, hb⟩
    have B4 := below_next (Nat.le_refl _) B3 hb
    have S4 := S3.below hb S3.lt
    have X4 := X3.below hb X3.lt
    clear B3 hb S3 X3 Sc0 Sc1 Sc2 Xc0 Xc1 Xc2 Xc3 Xc4 Xc5
    have Sc0 : w4.cell? ⟨w.heap.size, 0, none⟩ = some (.int .i64 o) := S4.cell 0
    have Sc1 : w4.cell? ⟨w.heap.size, 1, none⟩ = some (.int .i64 l) := S4.cell 1
    have Sc2 : w4.cell? ⟨w.heap.size, 2, none⟩ = some (.int .i64 m) := S4.cell 2
    have Xc0 : w4.cell? ⟨w2.heap.size, 0, none⟩ = some (.int .i64 0) := X4.cell 0
    have Xc1 : w4.cell? ⟨w2.heap.size, 1, none⟩ = some (.int .i64 0) := X4.cell 1
    have Xc2 : w4.cell? ⟨w2.heap.size, 2, none⟩ = some (.int .i64 0) := X4.cell 2
    have Xc3 : w4.cell? ⟨w2.heap.size, 3, none⟩ = some (.slice none 0 0) := X4.cell 3
    have Xc4 : w4.cell? ⟨w2.heap.size, 4, none⟩ = some (.int .i64 0) := X4.cell 4
    have Xc5 : w4.cell? ⟨w2.heap.size, 5, none⟩ = some (.int .i64 0) := X4.cell 5
    go_wp2_with fail
    refine ((unhide CI) _).mono ?_; rintro e w5 ⟨rfl, hb⟩
    have B5 := below_next (Nat.le_refl _) B4 hb
    have S5 := S4.below hb S4.lt
    have X5 := X4.below hb X4.lt
    clear B4 hb S4 X4 Sc0 Sc1 Sc2 Xc0 Xc1 Xc2 Xc3 Xc4 Xc5
    have B6 := B5.alloc B5.size (.cells #[.int .i64 0, .int .i64 0, .int .i64 0, .slice none 0 0, .int .i64 0, .int .i64 0] 32)
    have S6 := S5.alloc (.cells #[.int .i64 0, .int .i64 0, .int .i64 0, .slice none 0 0, .int .i64 0, .int .i64 0] 32)
    have X6 := X5.alloc (.cells #[.int .i64 0, .int .i64 0, .int .i64 0, .slice none 0 0, .int .i64 0, .int .i64 0] 32)
    have Y6 := Blk.new w5 32 #[.int .i64 0, .int .i64 0, .int .i64 0, .slice none 0 0, .int .i64 0, .int .i64 0]
    clear B5 S5 X5
    have Sc0 : (w5.alloc (.cells #[.int .i64 0, .int .i64 0, .int .i64 0, .slice none 0 0, .int .i64 0, .int .i64 0] 32)).cell? ⟨w.heap.size, 0, none⟩ = some (.int .i64 o) := S6.cell 0
    have Sc1 : (w5.alloc (.cells #[.int .i64 0, .int .i64 0, .int .i64 0, .slice none 0 0, .int .i64 0, .int .i64 0] 32)).cell? ⟨w.heap.size, 1, none⟩ = some (.int .i64 l) := S6.cell 1
    have Sc2 : (w5.alloc (.cells #[.int .i64 0, .int .i64 0, .int .i64 0, .slice none 0 0, .int .i64 0, .int .i64 0] 32)).cell? ⟨w.heap.size, 2, none⟩ = some (.int .i64 m) := S6.cell 2
    have Xc0 : (w5.alloc (.cells #[.int .i64 0, .int .i64 0, .int .i64 0, .slice none 0 0, .int .i64 0, .int .i64 0] 32)).cell? ⟨w2.heap.size, 0, none⟩ = some (.int .i64 0) := X6.cell 0
    have Xc1 : (w5.alloc (.cells #[.int .i64 0, .int .i64 0, .int .i64 0, .slice none 0 0, .int .i64 0, .int .i64 0] 32)).cell? ⟨w2.heap.size, 1, none⟩ = some (.int .i64 0) := X6.cell 1
    have Xc2 : (w5.alloc (.cells #[.int .i64 0, .int .i64 0, .int .i64 0, .slice none 0 0, .int .i64 0, .int .i64 0] 32)).cell? ⟨w2.heap.size, 2, none⟩ = some (.int .i64 0) := X6.cell 2
    have Xc3 : (w5.alloc (.cells #[.int .i64 0, .int .i64 0, .int .i64 0, .slice none 0 0, .int .i64 0, .int .i64 0] 32)).cell? ⟨w2.heap.size, 3, none⟩ = some (.slice none 0 0) := X6.cell 3
    have Xc4 : (w5.alloc (.cells #[.int .i64 0, .int .i64 0, .int .i64 0, .slice none 0 0, .int .i64 0, .int .i64 0] 32)).cell? ⟨w2.heap.size, 4, none⟩ = some (.int .i64 0) := X6.cell 4
    have Xc5 : (w5.alloc (.cells #[.int .i64 0, .int .i64 0, .int .i64 0, .slice none 0 0, .int .i64 0, .int .i64 0] 32)).cell? ⟨w2.heap.size, 5, none⟩ = some (.int .i64 0) := X6.cell 5
    have Yc0 : (w5.alloc (.cells #[.int .i64 0, .int .i64 0, .int .i64 0, .slice none 0 0, .int .i64 0, .int .i64 0] 32)).cell? ⟨w5.heap.size, 0, none⟩ = some (.int .i64 0) := Y6.cell 0
    have Yc1 : (w5.alloc (.cells #[.int .i64 0, .int .i64 0, .int .i64 0, .slice none 0 0, .int .i64 0, .int .i64 0] 32)).cell? ⟨w5.heap.size, 1, none⟩ = some (.int .i64 0) := Y6.cell 1
    have Yc2 : (w5.alloc (.cells #[.int .i64 0, .int .i64 0, .int .i64 0, .slice none 0 0, .int .i64 0, .int .i64 0] 32)).cell? ⟨w5.heap.size, 2, none⟩ = some (.int .i64 0) := Y6.cell 2
    have Yc3 : (w5.alloc (.cells #[.int .i64 0, .int .i64 0, .int .i64 0, .slice none 0 0, .int .i64 0, .int .i64 0] 32)).cell? ⟨w5.heap.size, 3, none⟩ = some (.slice none 0 0) := Y6.cell 3
    have Yc4 : (w5.alloc (.cells #[.int .i64 0, .int .i64 0, .int .i64 0, .slice none 0 0, .int .i64 0, .int .i64 0] 32)).cell? ⟨w5.heap.size, 4, none⟩ = some (.int .i64 0) := Y6.cell 4
    have Yc5 : (w5.alloc (.cells #[.int .i64 0, .int .i64 0, .int .i64 0, .slice none 0 0, .int .i64 0, .int .i64 0] 32)).cell? ⟨w5.heap.size, 5, none⟩ = some (.int .i64 0) := Y6.cell 5
    go_wp2_with fail
    refine (eq0 0 0 0 0 0 _).mono ?_; rintro e w7 ⟨rfl, hb⟩
    have B7 := below_next (Nat.le_refl _) B6 hb
    have S7 := S6.below hb S6.lt
    have X7 := X6.below hb X6.lt
    have Y7 := Y6.below hb Y6.lt
    clear B6 hb S6 X6 Y6 Sc0 Sc1 Sc2 Xc0 Xc1 Xc2 Xc3 Xc4 Xc5 Yc0 Yc1 Yc2 Yc3 Yc4 Yc5
    have Sc0 : w7.cell? ⟨w.heap.size, 0, none⟩ = some (.int .i64 o) := S7.cell 0
    have Sc1 : w7.cell? ⟨w.heap.size, 1, none⟩ = some (.int .i64 l) := S7.cell 1
    have Sc2 : w7.cell? ⟨w.heap.size, 2, none⟩ = some (.int .i64 m) := S7.cell 2
    have Xc0 : w7.cell? ⟨w2.heap.size, 0, none⟩ = some (.int .i64 0) := X7.cell 0
    have Xc1 : w7.cell? ⟨w2.heap.size, 1, none⟩ = some (.int .i64 0) := X7.cell 1
    have Xc2 : w7.cell? ⟨w2.heap.size, 2, none⟩ = some (.int .i64 0) := X7.cell 2
    have Xc3 : w7.cell? ⟨w2.heap.size, 3, none⟩ = some (.slice none 0 0) := X7.cell 3
    have Xc4 : w7.cell? ⟨w2.heap.size, 4, none⟩ = some (.int .i64 0) := X7.cell 4
    have Xc5 : w7.cell? ⟨w2.heap.size, 5, none⟩ = some (.int .i64 0) := X7.cell 5
    have Yc0 : w7.cell? ⟨w5.heap.size, 0, none⟩ = some (.int .i64 0) := Y7.cell 0
    have Yc1 : w7.cell? ⟨w5.heap.size, 1, none⟩ = some (.int .i64 0) := Y7.cell 1
    have Yc2 : w7.cell? ⟨w5.heap.size, 2, none⟩ = some (.int .i64 0) := Y7.cell 2
    have Yc3 : w7.cell? ⟨w5.heap.size, 3, none⟩ = some (.slice none 0 0) := Y7.cell 3
    have Yc4 : w7.cell? ⟨w5.heap.size, 4, none⟩ = some (.int .i64 0) := Y7.cell 4
    have Yc5 : w7.cell? ⟨w5.heap.size, 5, none⟩ = some (.int .i64 0) := Y7.cell 5
    go_wp2_with fail
    refine (mark0 0 0 0 0 0 _).mono ?_; rintro e w8 ⟨rfl, hb⟩
    have B8 := below_next (Nat.le_refl _) B7 hb
    have S8 := S7.below hb S7.lt
    have X8 := X7.below hb X7.lt
    have Y8 := Y7.below hb Y7.lt
    clear B7 hb S7 X7 Y7 Sc0 Sc1 Sc2 Xc0 Xc1 Xc2 Xc3 Xc4 Xc5 Yc0 Yc1 Yc2 Yc3 Yc4 Yc5
    have Sc0 : w8.cell? ⟨w.heap.size, 0, none⟩ = some (.int .i64 o) := S8.cell 0
    have Sc1 : w8.cell? ⟨w.heap.size, 1, none⟩ = some (.int .i64 l) := S8.cell 1
    have Sc2 : w8.cell? ⟨w.heap.size, 2, none⟩ = some (.int .i64 m) := S8.cell 2
    have Xc0 : w8.cell? ⟨w2.heap.size, 0, none⟩ = some (.int .i64 0) := X8.cell 0
    have Xc1 : w8.cell? ⟨w2.heap.size, 1, none⟩ = some (.int .i64 0) := X8.cell 1
    have Xc2 : w8.cell? ⟨w2.heap.size, 2, none⟩ = some (.int .i64 0) := X8.cell 2
    have Xc3 : w8.cell? ⟨w2.heap.size, 3, none⟩ = some (.slice none 0 0) := X8.cell 3
    have Xc4 : w8.cell? ⟨w2.heap.size, 4, none⟩ = some (.int .i64 0) := X8.cell 4
    have Xc5 : w8.cell? ⟨w2.heap.size, 5, none⟩ = some (.int .i64 0) := X8.cell 5
    have Yc0 : w8.cell? ⟨w5.heap.size, 0, none⟩ = some (.int .i64 0) := Y8.cell 0
    have Yc1 : w8.cell? ⟨w5.heap.size, 1, none⟩ = some (.int .i64 0) := Y8.cell 1
    have Yc2 : w8.cell? ⟨w5.heap.size, 2, none⟩ = some (.int .i64 0) := Y8.cell 2
    have Yc3 : w8.cell? ⟨w5.heap.size, 3, none⟩ = some (.slice none 0 0) := Y8.cell 3
    have Yc4 : w8.cell? ⟨w5.heap.size, 4, none⟩ = some (.int .i64 0) := Y8.cell 4
    have Yc5 : w8.cell? ⟨w5.heap.size, 5, none⟩ = some (.int .i64 0) := Y8.cell 5
    go_wp2_with fail
    refine (held0 0 0 0 0 0 _).mono ?_; rintro e w9 ⟨rfl, hb⟩
    have B9 := below_next (Nat.le_refl _) B8 hb
    have S9 := S8.below hb S8.lt
    have X9 := X8.below hb X8.lt
    have Y9 := Y8.below hb Y8.lt
    clear B8 hb S8 X8 Y8 Sc0 Sc1 Sc2 Xc0 Xc1 Xc2 Xc3 Xc4 Xc5 Yc0 Yc1 Yc2 Yc3 Yc4 Yc5
    have Sc0 : w9.cell? ⟨w.heap.size, 0, none⟩ = some (.int .i64 o) := S9.cell 0
    have Sc1 : w9.cell? ⟨w.heap.size, 1, none⟩ = some (.int .i64 l) := S9.cell 1
    have Sc2 : w9.cell? ⟨w.heap.size, 2, none⟩ = some (.int .i64 m) := S9.cell 2
    have Xc0 : w9.cell? ⟨w2.heap.size, 0, none⟩ = some (.int .i64 0) := X9.cell 0
    have Xc1 : w9.cell? ⟨w2.heap.size, 1, none⟩ = some (.int .i64 0) := X9.cell 1
    have Xc2 : w9.cell? ⟨w2.heap.size, 2, none⟩ = some (.int .i64 0) := X9.cell 2
    have Xc3 : w9.cell? ⟨w2.heap.size, 3, none⟩ = some (.slice none 0 0) := X9.cell 3
    have Xc4 : w9.cell? ⟨w2.heap.size, 4, none⟩ = some (.int .i64 0) := X9.cell 4
    have Xc5 : w9.cell? ⟨w2.heap.size, 5, none⟩ = some (.int .i64 0) := X9.cell 5
    have Yc0 : w9.cell? ⟨w5.heap.size, 0, none⟩ = some (.int .i64 0) := Y9.cell 0
    have Yc1 : w9.cell? ⟨w5.heap.size, 1, none⟩ = some (.int .i64 0) := Y9.cell 1
    have Yc2 : w9.cell? ⟨w5.heap.size, 2, none⟩ = some (.int .i64 0) := Y9.cell 2
    have Yc3 : w9.cell? ⟨w5.heap.size, 3, none⟩ = some (.slice none 0 0) := Y9.cell 3
    have Yc4 : w9.cell? ⟨w5.heap.size, 4, none⟩ = some (.int .i64 0) := Y9.cell 4
    have Yc5 : w9.cell? ⟨w5.heap.size, 5, none⟩ = some (.int .i64 0) := Y9.cell 5
    go_wp2_with fail
    refine (laws_toSetting _ _ _ _).mono ?_; rintro e w10 ⟨rfl, hb⟩
    have B10 := below_next (Nat.le_refl _) B9 hb
    have S10 := S9.below hb S9.lt
    have X10 := X9.below hb X9.lt
    have Y10 := Y9.below hb Y9.lt
    clear B9 hb S9 X9 Y9 Sc0 Sc1 Sc2 Xc0 Xc1 Xc2 Xc3 Xc4 Xc5 Yc0 Yc1 Yc2 Yc3 Yc4 Yc5
    have Sc0 : w10.cell? ⟨w.heap.size, 0, none⟩ = some (.int .i64 o) := S10.cell 0
    have Sc1 : w10.cell? ⟨w.heap.size, 1, none⟩ = some (.int .i64 l) := S10.cell 1
    have Sc2 : w10.cell? ⟨w.heap.size, 2, none⟩ = some (.int .i64 m) := S10.cell 2
    have Xc0 : w10.cell? ⟨w2.heap.size, 0, none⟩ = some (.int .i64 0) := X10.cell 0
    have Xc1 : w10.cell? ⟨w2.heap.size, 1, none⟩ = some (.int .i64 0) := X10.cell 1
    have Xc2 : w10.cell? ⟨w2.heap.size, 2, none⟩ = some (.int .i64 0) := X10.cell 2
    have Xc3 : w10.cell? ⟨w2.heap.size, 3, none⟩ = some (.slice none 0 0) := X10.cell 3
    have Xc4 : w10.cell? ⟨w2.heap.size, 4, none⟩ = some (.int .i64 0) := X10.cell 4
    have Xc5 : w10.cell? ⟨w2.heap.size, 5, none⟩ = some (.int .i64 0) := X10.cell 5
    have Yc0 : w10.cell? ⟨w5.heap.size, 0, none⟩ = some (.int .i64 0) := Y10.cell 0
    have Yc1 : w10.cell? ⟨w5.heap.size, 1, none⟩ = some (.int .i64 0) := Y10.cell 1
    have Yc2 : w10.cell? ⟨w5.heap.size, 2, none⟩ = some (.int .i64 0) := Y10.cell 2
    have Yc3 : w10.cell? ⟨w5.heap.size, 3, none⟩ = some (.slice none 0 0) := Y10.cell 3
    have Yc4 : w10.cell? ⟨w5.heap.size, 4, none⟩ = some (.int .i64 0) := Y10.cell 4
    have Yc5 : w10.cell? ⟨w5.heap.size, 5, none⟩ = some (.int .i64 0) := Y10.cell 5
    go_wp2_with fail
    refine ((unhide CI) _).mono ?_; rintro e w11 ⟨rfl, hb⟩
    have B11 := below_next (Nat.le_refl _) B10 hb
    have S11 := S10.below hb S10.lt
    have X11 := X10.below hb X10.lt
    have Y11 := Y10.below hb Y10.lt
    clear B10 hb S10 X10 Y10 Sc0 Sc1 Sc2 Xc0 Xc1 Xc2 Xc3 Xc4 Xc5 Yc0 Yc1 Yc2 Yc3 Yc4 Yc5
    have B12 := B11.alloc B11.size (.cells #[.int .i64 0, .int .i64 0, .int .i64 0, .slice none 0 0, .int .i64 0, .int .i64 0] 32)
    have S12 := S11.alloc (.cells #[.int .i64 0, .int .i64 0, .int .i64 0, .slice none 0 0, .int .i64 0, .int .i64 0] 32)
    have X12 := X11.alloc (.cells #[.int .i64 0, .int .i64 0, .int .i64 0, .slice none 0 0, .int .i64 0, .int .i64 0] 32)
    have Y12 := Y11.alloc (.cells #[.int .i64 0, .int .i64 0, .int .i64 0, .slice none 0 0, .int .i64 0, .int .i64 0] 32)
    have Z12 := Blk.new w11 32 #[.int .i64 0, .int .i64 0, .int .i64 0, .slice none 0 0, .int .i64 0, .int .i64 0]
    clear B11 S11 X11 Y11
    have Sc0 : (w11.alloc (.cells #[.int .i64 0, .int .i64 0, .int .i64 0, .slice none 0 0, .int .i64 0, .int .i64 0] 32)).cell? ⟨w.heap.size, 0, none⟩ = some (.int .i64 o) := S12.cell 0
    have Sc1 : (w11.alloc (.cells #[.int .i64 0, .int .i64 0, .int .i64 0, .slice none 0 0, .int .i64 0, .int .i64 0] 32)).cell? ⟨w.heap.size, 1, none⟩ = some (.int .i64 l) := S12.cell 1
    have Sc2 : (w11.alloc (.cells #[.int .i64 0, .int .i64 0, .int .i64 0, .slice none 0 0, .int .i64 0, .int .i64 0] 32)).cell? ⟨w.heap.size, 2, none⟩ = some (.int .i64 m) := S12.cell 2
    have Xc0 : (w11.alloc (.cells #[.int .i64 0, .int .i64 0, .int .i64 0, .slice none 0 0, .int .i64 0, .int .i64 0] 32)).cell? ⟨w2.heap.size, 0, none⟩ = some (.int .i64 0) := X12.cell 0
    have Xc1 : (w11.alloc (.cells #[.int .i64 0, .int .i64 0, .int .i64 0, .slice none 0 0, .int .i64 0, .int .i64 0] 32)).cell? ⟨w2.heap.size, 1, none⟩ = some (.int .i64 0) := X12.cell 1
    have Xc2 : (w11.alloc (.cells #[.int .i64 0, .int .i64 0, .int .i64 0, .slice none 0 0, .int .i64 0, .int .i64 0] 32)).cell? ⟨w2.heap.size, 2, none⟩ = some (.int .i64 0) := X12.cell 2
    have Xc3 : (w11.alloc (.cells #[.int .i64 0, .int .i64 0, .int .i64 0, .slice none 0 0, .int .i64 0, .int .i64 0] 32)).cell? ⟨w2.heap.size, 3, none⟩ = some (.slice none 0 0) := X12.cell 3
    have Xc4 : (w11.alloc (.cells #[.int .i64 0, .int .i64 0, .int .i64 0, .slice none 0 0, .int .i64 0, .int .i64 0] 32)).cell? ⟨w2.heap.size, 4, none⟩ = some (.int .i64 0) := X12.cell 4
    have Xc5 : (w11.alloc (.cells #[.int .i64 0, .int .i64 0, .int .i64 0, .slice none 0 0, .int .i64 0, .int .i64 0] 32)).cell? ⟨w2.heap.size, 5, none⟩ = some (.int .i64 0) := X12.cell 5
    have Yc0 : (w11.alloc (.cells #[.int .i64 0, .int .i64 0, .int .i64 0, .slice none 0 0, .int .i64 0, .int .i64 0] 32)).cell? ⟨w5.heap.size, 0, none⟩ = some (.int .i64 0) := Y12.cell 0
    have Yc1 : (w11.alloc (.cells #[.int .i64 0, .int .i64 0, .int .i64 0, .slice none 0 0, .int .i64 0, .int .i64 0] 32)).cell? ⟨w5.heap.size, 1, none⟩ = some (.int .i64 0) := Y12.cell 1
    have Yc2 : (w11.alloc (.cells #[.int .i64 0, .int .i64 0, .int .i64 0, .slice none 0 0, .int .i64 0, .int .i64 0] 32)).cell? ⟨w5.heap.size, 2, none⟩ = some (.int .i64 0) := Y12.cell 2
    have Yc3 : (w11.alloc (.cells #[.int .i64 0, .int .i64 0, .int .i64 0, .slice none 0 0, .int .i64 0, .int .i64 0] 32)).cell? ⟨w5.heap.size, 3, none⟩ = some (.slice none 0 0) := Y12.cell 3
    have Yc4 : (w11.alloc (.cells #[.int .i64 0, .int .i64 0, .int .i64 0, .slice none 0 0, .int .i64 0, .int .i64 0] 32)).cell? ⟨w5.heap.size, 4, none⟩ = some (.int .i64 0) := Y12.cell 4
    have Yc5 : (w11.alloc (.cells #[.int .i64 0, .int .i64 0, .int .i64 0, .slice none 0 0, .int .i64 0, .int .i64 0] 32)).cell? ⟨w5.heap.size, 5, none⟩ = some (.int .i64 0) := Y12.cell 5
    have Zc0 : (w11.alloc (.cells #[.int .i64 0, .int .i64 0, .int .i64 0, .slice none 0 0, .int .i64 0, .int .i64 0] 32)).cell? ⟨w11.heap.size, 0, none⟩ = some (.int .i64 0) := Z12.cell 0
    have Zc1 : (w11.alloc (.cells #[.int .i64 0, .int .i64 0, .int .i64 0, .slice none 0 0, .int .i64 0, .int .i64 0] 32)).cell? ⟨w11.heap.size, 1, none⟩ = some (.int .i64 0) := Z12.cell 1
    have Zc2 : (w11.alloc (.cells #[.int .i64 0, .int .i64 0, .int .i64 0, .slice none 0 0, .int .i64 0, .int .i64 0] 32)).cell? ⟨w11.heap.size, 2, none⟩ = some (.int .i64 0) := Z12.cell 2
    have Zc3 : (w11.alloc (.cells #[.int .i64 0, .int .i64 0, .int .i64 0, .slice none 0 0, .int .i64 0, .int .i64 0] 32)).cell? ⟨w11.heap.size, 3, none⟩ = some (.slice none 0 0) := Z12.cell 3
    have Zc4 : (w11.alloc (.cells #[.int .i64 0, .int .i64 0, .int .i64 0, .slice none 0 0, .int .i64 0, .int .i64 0] 32)).cell? ⟨w11.heap.size, 4, none⟩ = some (.int .i64 0) := Z12.cell 4
    have Zc5 : (w11.alloc (.cells #[.int .i64 0, .int .i64 0, .int .i64 0, .slice none 0 0, .int .i64 0, .int .i64 0] 32)).cell? ⟨w11.heap.size, 5, none⟩ = some (.int .i64 0) := Z12.cell 5
    go_wp2_with fail
    refine (eq0 0 0 0 0 0 _).mono ?_; rintro e w13 ⟨rfl, hb⟩
    have B13 := below_next (Nat.le_refl _) B12 hb
    have S13 := S12.below hb S12.lt
    have X13 := X12.below hb X12.lt
    have Y13 := Y12.below hb Y12.lt
    have Z13 := Z12.below hb Z12.lt
    clear B12 hb S12 X12 Y12 Z12 Sc0 Sc1 Sc2 Xc0 Xc1 Xc2 Xc3 Xc4 Xc5 Yc0 Yc1 Yc2 Yc3 Yc4 Yc5 Zc0 Zc1 Zc2 Zc3 Zc4 Zc5
    have Sc0 : w13.cell? ⟨w.heap.size, 0, none⟩ = some (.int .i64 o) := S13.cell 0
    have Sc1 : w13.cell? ⟨w.heap.size, 1, none⟩ = some (.int .i64 l) := S13.cell 1
    have Sc2 : w13.cell? ⟨w.heap.size, 2, none⟩ = some (.int .i64 m) := S13.cell 2
    have Xc0 : w13.cell? ⟨w2.heap.size, 0, none⟩ = some (.int .i64 0) := X13.cell 0
    have Xc1 : w13.cell? ⟨w2.heap.size, 1, none⟩ = some (.int .i64 0) := X13.cell 1
    have Xc2 : w13.cell? ⟨w2.heap.size, 2, none⟩ = some (.int .i64 0) := X13.cell 2
    have Xc3 : w13.cell? ⟨w2.heap.size, 3, none⟩ = some (.slice none 0 0) := X13.cell 3
    have Xc4 : w13.cell? ⟨w2.heap.size, 4, none⟩ = some (.int .i64 0) := X13.cell 4
    have Xc5 : w13.cell? ⟨w2.heap.size, 5, none⟩ = some (.int .i64 0) := X13.cell 5
    have Yc0 : w13.cell? ⟨w5.heap.size, 0, none⟩ = some (.int .i64 0) := Y13.cell 0
    have Yc1 : w13.cell? ⟨w5.heap.size, 1, none⟩ = some (.int .i64 0) := Y13.cell 1
    have Yc2 : w13.cell? ⟨w5.heap.size, 2, none⟩ = some (.int .i64 0) := Y13.cell 2
    have Yc3 : w13.cell? ⟨w5.heap.size, 3, none⟩ = some (.slice none 0 0) := Y13.cell 3
    have Yc4 : w13.cell? ⟨w5.heap.size, 4, none⟩ = some (.int .i64 0) := Y13.cell 4
    have Yc5 : w13.cell? ⟨w5.heap.size, 5, none⟩ = some (.int .i64 0) := Y13.cell 5
    have Zc0 : w13.cell? ⟨w11.heap.size, 0, none⟩ = some (.int .i64 0) := Z13.cell 0
    have Zc1 : w13.cell? ⟨w11.heap.size, 1, none⟩ = some (.int .i64 0) := Z13.cell 1
    have Zc2 : w13.cell? ⟨w11.heap.size, 2, none⟩ = some (.int .i64 0) := Z13.cell 2
    have Zc3 : w13.cell? ⟨w11.heap.size, 3, none⟩ = some (.slice none 0 0) := Z13.cell 3
    have Zc4 : w13.cell? ⟨w11.heap.size, 4, none⟩ = some (.int .i64 0) := Z13.cell 4
    have Zc5 : w13.cell? ⟨w11.heap.size, 5, none⟩ = some (.int .i64 0) := Z13.cell 5
    go_wp2_with fail
    refine (held0 0 0 0 0 0 _).mono ?_; rintro e w14 ⟨rfl, hb⟩
    have B14 := below_next (Nat.le_refl _) B13 hb
    have S14 := S13.below hb S13.lt
    have X14 := X13.below hb X13.lt
    have Y14 := Y13.below hb Y13.lt
    have Z14 := Z13.below hb Z13.lt
    clear B13 hb S13 X13 Y13 Z13 Sc0 Sc1 Sc2 Xc0 Xc1 Xc2 Xc3 Xc4 Xc5 Yc0 Yc1 Yc2 Yc3 Yc4 Yc5 Zc0 Zc1 Zc2 Zc3 Zc4 Zc5
    go_wp2_with fail
    go_ret
    exact ⟨rfl, B14⟩
  · have HV := hide (start_yes hk)
    rw [hk, HV.out] at CS CI
    have CS := hide CS
    have CI := hide CI
    clear hk HV
    go_enter Try.func4, Try.ntmps4
    go_wp2_with fail
    refine (laws_toSetting _ _ _ _).mono ?_; rintro e w1 ⟨rfl, hb⟩
    have B1 := below_next (Nat.le_refl _) B0 hb
    have S1 := S0.below hb S0.lt
    clear B0 hb S0
    have Sc0 : w1.cell? ⟨w.heap.size, 0, none⟩ = some (.int .i64 o) := S1.cell 0
    have Sc1 : w1.cell? ⟨w.heap.size, 1, none⟩ = some (.int .i64 l) := S1.cell 1
    have Sc2 : w1.cell? ⟨w.heap.size, 2, none⟩ = some (.int .i64 m) := S1.cell 2
    go_wp2_with fail
    refine ((unhide CS) _).mono ?_; rintro e w2 ⟨rfl, hb⟩
    have B2 := below_next (Nat.le_refl _) B1 hb
    have S2 := S1.below hb S1.lt
    clear B1 hb S1 Sc0 Sc1 Sc2
    have B3 := B2.alloc B2.size (.cells #[.int .i64 o, .int .i64 l, .int .i64 m, .slice none 0 0, .int .i64 0, .int .i64 (-1)] 32)
    have S3 := S2.alloc (.cells #[.int .i64 o, .int .i64 l, .int .i64 m, .slice none 0 0, .int .i64 0, .int .i64 (-1)] 32)
    have X3 := Blk.new w2 32 #[.int .i64 o, .int .i64 l, .int .i64 m, .slice none 0 0, .int .i64 0, .int .i64 (-1)]
    clear B2 S2
    have Sc0 : (w2.alloc (.cells #[.int .i64 o, .int .i64 l, .int .i64 m, .slice none 0 0, .int .i64 0, .int .i64 (-1)] 32)).cell? ⟨w.heap.size, 0, none⟩ = some (.int .i64 o) := S3.cell 0
    have Sc1 : (w2.alloc (.cells #[.int .i64 o, .int .i64 l, .int .i64 m, .slice none 0 0, .int .i64 0, .int .i64 (-1)] 32)).cell? ⟨w.heap.size, 1, none⟩ = some (.int .i64 l) := S3.cell 1
    have Sc2 : (w2.alloc (.cells #[.int .i64 o, .int .i64 l, .int .i64 m, .slice none 0 0, .int .i64 0, .int .i64 (-1)] 32)).cell? ⟨w.heap.size, 2, none⟩ = some (.int .i64 m) := S3.cell 2
    have Xc0 : (w2.alloc (.cells #[.int .i64 o, .int .i64 l, .int .i64 m, .slice none 0 0, .int .i64 0, .int .i64 (-1)] 32)).cell? ⟨w2.heap.size, 0, none⟩ = some (.int .i64 o) := X3.cell 0
    have Xc1 : (w2.alloc (.cells #[.int .i64 o, .int .i64 l, .int .i64 m, .slice none 0 0, .int .i64 0, .int .i64 (-1)] 32)).cell? ⟨w2.heap.size, 1, none⟩ = some (.int .i64 l) := X3.cell 1
    have Xc2 : (w2.alloc (.cells #[.int .i64 o, .int .i64 l, .int .i64 m, .slice none 0 0, .int .i64 0, .int .i64 (-1)] 32)).cell? ⟨w2.heap.size, 2, none⟩ = some (.int .i64 m) := X3.cell 2
    have Xc3 : (w2.alloc (.cells #[.int .i64 o, .int .i64 l, .int .i64 m, .slice none 0 0, .int .i64 0, .int .i64 (-1)] 32)).cell? ⟨w2.heap.size, 3, none⟩ = some (.slice none 0 0) := X3.cell 3
    have Xc4 : (w2.alloc (.cells #[.int .i64 o, .int .i64 l, .int .i64 m, .slice none 0 0, .int .i64 0, .int .i64 (-1)] 32)).cell? ⟨w2.heap.size, 4, none⟩ = some (.int .i64 0) := X3.cell 4
    have Xc5 : (w2.alloc (.cells #[.int .i64 o, .int .i64 l, .int .i64 m, .slice none 0 0, .int .i64 0, .int .i64 (-1)] 32)).cell? ⟨w2.heap.size, 5, none⟩ = some (.int .i64 (-1)) := X3.cell 5
    go_wp2_with fail
    refine (laws_toSetting _ _ _ _).mono ?_; rintro e w4 ⟨rfl, hb⟩
    have B4 := below_next (Nat.le_refl _) B3 hb
    have S4 := S3.below hb S3.lt
    have X4 := X3.below hb X3.lt
    clear B3 hb S3 X3 Sc0 Sc1 Sc2 Xc0 Xc1 Xc2 Xc3 Xc4 Xc5
    have Sc0 : w4.cell? ⟨w.heap.size, 0, none⟩ = some (.int .i64 o) := S4.cell 0
    have Sc1 : w4.cell? ⟨w.heap.size, 1, none⟩ = some (.int .i64 l) := S4.cell 1
    have Sc2 : w4.cell? ⟨w.heap.size, 2, none⟩ = some (.int .i64 m) := S4.cell 2
    have Xc0 : w4.cell? ⟨w2.heap.size, 0, none⟩ = some (.int .i64 o) := X4.cell 0
    have Xc1 : w4.cell? ⟨w2.heap.size, 1, none⟩ = some (.int .i64 l) := X4.cell 1
    have Xc2 : w4.cell? ⟨w2.heap.size, 2, none⟩ = some (.int .i64 m) := X4.cell 2
    have Xc3 : w4.cell? ⟨w2.heap.size, 3, none⟩ = some (.slice none 0 0) := X4.cell 3
    have Xc4 : w4.cell? ⟨w2.heap.size, 4, none⟩ = some (.int .i64 0) := X4.cell 4
    have Xc5 : w4.cell? ⟨w2.heap.size, 5, none⟩ = some (.int .i64 (-1)) := X4.cell 5
    go_wp2_with fail
    refine ((unhide CI) _).mono ?_; rintro e w5 ⟨rfl, hb⟩
    have B5 := below_next (Nat.le_refl _) B4 hb
    have S5 := S4.below hb S4.lt
    have X5 := X4.below hb X4.lt
    clear B4 hb S4 X4 Sc0 Sc1 Sc2 Xc0 Xc1 Xc2 Xc3 Xc4 Xc5
    have B6 := B5.alloc B5.size (.cells #[.int .i64 o, .int .i64 l, .int .i64 m, .slice none 0 0, .int .i64 0, .int .i64 (-1)] 32)
    have S6 := S5.alloc (.cells #[.int .i64 o, .int .i64 l, .int .i64 m, .slice none 0 0, .int .i64 0, .int .i64 (-1)] 32)
    have X6 := X5.alloc (.cells #[.int .i64 o, .int .i64 l, .int .i64 m, .slice none 0 0, .int .i64 0, .int .i64 (-1)] 32)
    have Y6 := Blk.new w5 32 #[.int .i64 o, .int .i64 l, .int .i64 m, .slice none 0 0, .int .i64 0, .int .i64 (-1)]
    clear B5 S5 X5
    have Sc0 : (w5.alloc (.cells #[.int .i64 o, .int .i64 l, .int .i64 m, .slice none 0 0, .int .i64 0, .int .i64 (-1)] 32)).cell? ⟨w.heap.size, 0, none⟩ = some (.int .i64 o) := S6.cell 0
    have Sc1 : (w5.alloc (.cells #[.int .i64 o, .int .i64 l, .int .i64 m, .slice none 0 0, .int .i64 0, .int .i64 (-1)] 32)).cell? ⟨w.heap.size, 1, none⟩ = some (.int .i64 l) := S6.cell 1
    have Sc2 : (w5.alloc (.cells #[.int .i64 o, .int .i64 l, .int .i64 m, .slice none 0 0, .int .i64 0, .int .i64 (-1)] 32)).cell? ⟨w.heap.size, 2, none⟩ = some (.int .i64 m) := S6.cell 2
    have Xc0 : (w5.alloc (.cells #[.int .i64 o, .int .i64 l, .int .i64 m, .slice none 0 0, .int .i64 0, .int .i64 (-1)] 32)).cell? ⟨w2.heap.size, 0, none⟩ = some (.int .i64 o) := X6.cell 0
    have Xc1 : (w5.alloc (.cells #[.int .i64 o, .int .i64 l, .int .i64 m, .slice none 0 0, .int .i64 0, .int .i64 (-1)] 32)).cell? ⟨w2.heap.size, 1, none⟩ = some (.int .i64 l) := X6.cell 1
    have Xc2 : (w5.alloc (.cells #[.int .i64 o, .int .i64 l, .int .i64 m, .slice none 0 0, .int .i64 0, .int .i64 (-1)] 32)).cell? ⟨w2.heap.size, 2, none⟩ = some (.int .i64 m) := X6.cell 2
    have Xc3 : (w5.alloc (.cells #[.int .i64 o, .int .i64 l, .int .i64 m, .slice none 0 0, .int .i64 0, .int .i64 (-1)] 32)).cell? ⟨w2.heap.size, 3, none⟩ = some (.slice none 0 0) := X6.cell 3
    have Xc4 : (w5.alloc (.cells #[.int .i64 o, .int .i64 l, .int .i64 m, .slice none 0 0, .int .i64 0, .int .i64 (-1)] 32)).cell? ⟨w2.heap.size, 4, none⟩ = some (.int .i64 0) := X6.cell 4
    have Xc5 : (w5.alloc (.cells #[.int .i64 o, .int .i64 l, .int .i64 m, .slice none 0 0, .int .i64 0, .int .i64 (-1)] 32)).cell? ⟨w2.heap.size, 5, none⟩ = some (.int .i64 (-1)) := X6.cell 5
    have Yc0 : (w5.alloc (.cells #[.int .i64 o, .int .i64 l, .int .i64 m, .slice none 0 0, .int .i64 0, .int .i64 (-1)] 32)).cell? ⟨w5.heap.size, 0, none⟩ = some (.int .i64 o) := Y6.cell 0
    have Yc1 : (w5.alloc (.cells #[.int .i64 o, .int .i64 l, .int .i64 m, .slice none 0 0, .int .i64 0, .int .i64 (-1)] 32)).cell? ⟨w5.heap.size, 1, none⟩ = some (.int .i64 l) := Y6.cell 1
    have Yc2 : (w5.alloc (.cells #[.int .i64 o, .int .i64 l, .int .i64 m, .slice none 0 0, .int .i64 0, .int .i64 (-1)] 32)).cell? ⟨w5.heap.size, 2, none⟩ = some (.int .i64 m) := Y6.cell 2
    have Yc3 : (w5.alloc (.cells #[.int .i64 o, .int .i64 l, .int .i64 m, .slice none 0 0, .int .i64 0, .int .i64 (-1)] 32)).cell? ⟨w5.heap.size, 3, none⟩ = some (.slice none 0 0) := Y6.cell 3
    have Yc4 : (w5.alloc (.cells #[.int .i64 o, .int .i64 l, .int .i64 m, .slice none 0 0, .int .i64 0, .int .i64 (-1)] 32)).cell? ⟨w5.heap.size, 4, none⟩ = some (.int .i64 0) := Y6.cell 4
    have Yc5 : (w5.alloc (.cells #[.int .i64 o, .int .i64 l, .int .i64 m, .slice none 0 0, .int .i64 0, .int .i64 (-1)] 32)).cell? ⟨w5.heap.size, 5, none⟩ = some (.int .i64 (-1)) := Y6.cell 5
    go_wp2_with fail
    refine (eq0 o l m 0 (-1) _).mono ?_; rintro e w7 ⟨rfl, hb⟩
    have B7 := below_next (Nat.le_refl _) B6 hb
    have S7 := S6.below hb S6.lt
    have X7 := X6.below hb X6.lt
    have Y7 := Y6.below hb Y6.lt
    clear B6 hb S6 X6 Y6 Sc0 Sc1 Sc2 Xc0 Xc1 Xc2 Xc3 Xc4 Xc5 Yc0 Yc1 Yc2 Yc3 Yc4 Yc5
    have Sc0 : w7.cell? ⟨w.heap.size, 0, none⟩ = some (.int .i64 o) := S7.cell 0
    have Sc1 : w7.cell? ⟨w.heap.size, 1, none⟩ = some (.int .i64 l) := S7.cell 1
    have Sc2 : w7.cell? ⟨w.heap.size, 2, none⟩ = some (.int .i64 m) := S7.cell 2
    have Xc0 : w7.cell? ⟨w2.heap.size, 0, none⟩ = some (.int .i64 o) := X7.cell 0
    have Xc1 : w7.cell? ⟨w2.heap.size, 1, none⟩ = some (.int .i64 l) := X7.cell 1
    have Xc2 : w7.cell? ⟨w2.heap.size, 2, none⟩ = some (.int .i64 m) := X7.cell 2
    have Xc3 : w7.cell? ⟨w2.heap.size, 3, none⟩ = some (.slice none 0 0) := X7.cell 3
    have Xc4 : w7.cell? ⟨w2.heap.size, 4, none⟩ = some (.int .i64 0) := X7.cell 4
    have Xc5 : w7.cell? ⟨w2.heap.size, 5, none⟩ = some (.int .i64 (-1)) := X7.cell 5
    have Yc0 : w7.cell? ⟨w5.heap.size, 0, none⟩ = some (.int .i64 o) := Y7.cell 0
    have Yc1 : w7.cell? ⟨w5.heap.size, 1, none⟩ = some (.int .i64 l) := Y7.cell 1
    have Yc2 : w7.cell? ⟨w5.heap.size, 2, none⟩ = some (.int .i64 m) := Y7.cell 2
    have Yc3 : w7.cell? ⟨w5.heap.size, 3, none⟩ = some (.slice none 0 0) := Y7.cell 3
    have Yc4 : w7.cell? ⟨w5.heap.size, 4, none⟩ = some (.int .i64 0) := Y7.cell 4
    have Yc5 : w7.cell? ⟨w5.heap.size, 5, none⟩ = some (.int .i64 (-1)) := Y7.cell 5
    go_wp2_with fail
    refine (mark0 o l m 0 (-1) _).mono ?_; rintro e w8 ⟨rfl, hb⟩
    have B8 := below_next (Nat.le_refl _) B7 hb
    have S8 := S7.below hb S7.lt
    have X8 := X7.below hb X7.lt
    have Y8 := Y7.below hb Y7.lt
    clear B7 hb S7 X7 Y7 Sc0 Sc1 Sc2 Xc0 Xc1 Xc2 Xc3 Xc4 Xc5 Yc0 Yc1 Yc2 Yc3 Yc4 Yc5
    have Sc0 : w8.cell? ⟨w.heap.size, 0, none⟩ = some (.int .i64 o) := S8.cell 0
    have Sc1 : w8.cell? ⟨w.heap.size, 1, none⟩ = some (.int .i64 l) := S8.cell 1
    have Sc2 : w8.cell? ⟨w.heap.size, 2, none⟩ = some (.int .i64 m) := S8.cell 2
    have Xc0 : w8.cell? ⟨w2.heap.size, 0, none⟩ = some (.int .i64 o) := X8.cell 0
    have Xc1 : w8.cell? ⟨w2.heap.size, 1, none⟩ = some (.int .i64 l) := X8.cell 1
    have Xc2 : w8.cell? ⟨w2.heap.size, 2, none⟩ = some (.int .i64 m) := X8.cell 2
    have Xc3 : w8.cell? ⟨w2.heap.size, 3, none⟩ = some (.slice none 0 0) := X8.cell 3
    have Xc4 : w8.cell? ⟨w2.heap.size, 4, none⟩ = some (.int .i64 0) := X8.cell 4
    have Xc5 : w8.cell? ⟨w2.heap.size, 5, none⟩ = some (.int .i64 (-1)) := X8.cell 5
    have Yc0 : w8.cell? ⟨w5.heap.size, 0, none⟩ = some (.int .i64 o) := Y8.cell 0
    have Yc1 : w8.cell? ⟨w5.heap.size, 1, none⟩ = some (.int .i64 l) := Y8.cell 1
    have Yc2 : w8.cell? ⟨w5.heap.size, 2, none⟩ = some (.int .i64 m) := Y8.cell 2
    have Yc3 : w8.cell? ⟨w5.heap.size, 3, none⟩ = some (.slice none 0 0) := Y8.cell 3
    have Yc4 : w8.cell? ⟨w5.heap.size, 4, none⟩ = some (.int .i64 0) := Y8.cell 4
    have Yc5 : w8.cell? ⟨w5.heap.size, 5, none⟩ = some (.int .i64 (-1)) := Y8.cell 5
    go_wp2_with fail
    refine (held0 o l m 0 (-1) _).mono ?_; rintro e w9 ⟨rfl, hb⟩
    have B9 := below_next (Nat.le_refl _) B8 hb
    have S9 := S8.below hb S8.lt
    have X9 := X8.below hb X8.lt
    have Y9 := Y8.below hb Y8.lt
    clear B8 hb S8 X8 Y8 Sc0 Sc1 Sc2 Xc0 Xc1 Xc2 Xc3 Xc4 Xc5 Yc0 Yc1 Yc2 Yc3 Yc4 Yc5
    have Sc0 : w9.cell? ⟨w.heap.size, 0, none⟩ = some (.int .i64 o) := S9.cell 0
    have Sc1 : w9.cell? ⟨w.heap.size, 1, none⟩ = some (.int .i64 l) := S9.cell 1
    have Sc2 : w9.cell? ⟨w.heap.size, 2, none⟩ = some (.int .i64 m) := S9.cell 2
    have Xc0 : w9.cell? ⟨w2.heap.size, 0, none⟩ = some (.int .i64 o) := X9.cell 0
    have Xc1 : w9.cell? ⟨w2.heap.size, 1, none⟩ = some (.int .i64 l) := X9.cell 1
    have Xc2 : w9.cell? ⟨w2.heap.size, 2, none⟩ = some (.int .i64 m) := X9.cell 2
    have Xc3 : w9.cell? ⟨w2.heap.size, 3, none⟩ = some (.slice none 0 0) := X9.cell 3
    have Xc4 : w9.cell? ⟨w2.heap.size, 4, none⟩ = some (.int .i64 0) := X9.cell 4
    have Xc5 : w9.cell? ⟨w2.heap.size, 5, none⟩ = some (.int .i64 (-1)) := X9.cell 5
    have Yc0 : w9.cell? ⟨w5.heap.size, 0, none⟩ = some (.int .i64 o) := Y9.cell 0
    have Yc1 : w9.cell? ⟨w5.heap.size, 1, none⟩ = some (.int .i64 l) := Y9.cell 1
    have Yc2 : w9.cell? ⟨w5.heap.size, 2, none⟩ = some (.int .i64 m) := Y9.cell 2
    have Yc3 : w9.cell? ⟨w5.heap.size, 3, none⟩ = some (.slice none 0 0) := Y9.cell 3
    have Yc4 : w9.cell? ⟨w5.heap.size, 4, none⟩ = some (.int .i64 0) := Y9.cell 4
    have Yc5 : w9.cell? ⟨w5.heap.size, 5, none⟩ = some (.int .i64 (-1)) := Y9.cell 5
    go_wp2_with fail
    refine (laws_toSetting _ _ _ _).mono ?_; rintro e w10 ⟨rfl, hb⟩
    have B10 := below_next (Nat.le_refl _) B9 hb
    have S10 := S9.below hb S9.lt
    have X10 := X9.below hb X9.lt
    have Y10 := Y9.below hb Y9.lt
    clear B9 hb S9 X9 Y9 Sc0 Sc1 Sc2 Xc0 Xc1 Xc2 Xc3 Xc4 Xc5 Yc0 Yc1 Yc2 Yc3 Yc4 Yc5
    have Sc0 : w10.cell? ⟨w.heap.size, 0, none⟩ = some (.int .i64 o) := S10.cell 0
    have Sc1 : w10.cell? ⟨w.heap.size, 1, none⟩ = some (.int .i64 l) := S10.cell 1
    have Sc2 : w10.cell? ⟨w.heap.size, 2, none⟩ = some (.int .i64 m) := S10.cell 2
    have Xc0 : w10.cell? ⟨w2.heap.size, 0, none⟩ = some (.int .i64 o) := X10.cell 0
    have Xc1 : w10.cell? ⟨w2.heap.size, 1, none⟩ = some (.int .i64 l) := X10.cell 1
    have Xc2 : w10.cell? ⟨w2.heap.size, 2, none⟩ = some (.int .i64 m) := X10.cell 2
    have Xc3 : w10.cell? ⟨w2.heap.size, 3, none⟩ = some (.slice none 0 0) := X10.cell 3
    have Xc4 : w10.cell? ⟨w2.heap.size, 4, none⟩ = some (.int .i64 0) := X10.cell 4
    have Xc5 : w10.cell? ⟨w2.heap.size, 5, none⟩ = some (.int .i64 (-1)) := X10.cell 5
    have Yc0 : w10.cell? ⟨w5.heap.size, 0, none⟩ = some (.int .i64 o) := Y10.cell 0
    have Yc1 : w10.cell? ⟨w5.heap.size, 1, none⟩ = some (.int .i64 l) := Y10.cell 1
    have Yc2 : w10.cell? ⟨w5.heap.size, 2, none⟩ = some (.int .i64 m) := Y10.cell 2
    have Yc3 : w10.cell? ⟨w5.heap.size, 3, none⟩ = some (.slice none 0 0) := Y10.cell 3
    have Yc4 : w10.cell? ⟨w5.heap.size, 4, none⟩ = some (.int .i64 0) := Y10.cell 4
    have Yc5 : w10.cell? ⟨w5.heap.size, 5, none⟩ = some (.int .i64 (-1)) := Y10.cell 5
    go_wp2_with fail
    refine ((unhide CI) _).mono ?_; rintro e w11 ⟨rfl, hb⟩
    have B11 := below_next (Nat.le_refl _) B10 hb
    have S11 := S10.below hb S10.lt
    have X11 := X10.below hb X10.lt
    have Y11 := Y10.below hb Y10.lt
    clear B10 hb S10 X10 Y10 Sc0 Sc1 Sc2 Xc0 Xc1 Xc2 Xc3 Xc4 Xc5 Yc0 Yc1 Yc2 Yc3 Yc4 Yc5
    have B12 := B11.alloc B11.size (.cells #[.int .i64 o, .int .i64 l, .int .i64 m, .slice none 0 0, .int .i64 0, .int .i64 (-1)] 32)
    have S12 := S11.alloc (.cells #[.int .i64 o, .int .i64 l, .int .i64 m, .slice none 0 0, .int .i64 0, .int .i64 (-1)] 32)
    have X12 := X11.alloc (.cells #[.int .i64 o, .int .i64 l, .int .i64 m, .slice none 0 0, .int .i64 0, .int .i64 (-1)] 32)
    have Y12 := Y11.alloc (.cells #[.int .i64 o, .int .i64 l, .int .i64 m, .slice none 0 0, .int .i64 0, .int .i64 (-1)] 32)
    have Z12 := Blk.new w11 32 #[.int .i64 o, .int .i64 l, .int .i64 m, .slice none 0 0, .int .i64 0, .int .i64 (-1)]
    clear B11 S11 X11 Y11
    have Sc0 : (w11.alloc (.cells #[.int .i64 o, .int .i64 l, .int .i64 m, .slice none 0 0, .int .i64 0, .int .i64 (-1)] 32)).cell? ⟨w.heap.size, 0, none⟩ = some (.int .i64 o) := S12.cell 0
    have Sc1 : (w11.alloc (.cells #[.int .i64 o, .int .i64 l, .int .i64 m, .slice none 0 0, .int .i64 0, .int .i64 (-1)] 32)).cell? ⟨w.heap.size, 1, none⟩ = some (.int .i64 l) := S12.cell 1
    have Sc2 : (w11.alloc (.cells #[.int .i64 o, .int .i64 l, .int .i64 m, .slice none 0 0, .int .i64 0, .int .i64 (-1)] 32)).cell? ⟨w.heap.size, 2, none⟩ = some (.int .i64 m) := S12.cell 2
    have Xc0 : (w11.alloc (.cells #[.int .i64 o, .int .i64 l, .int .i64 m, .slice none 0 0, .int .i64 0, .int .i64 (-1)] 32)).cell? ⟨w2.heap.size, 0, none⟩ = some (.int .i64 o) := X12.cell 0
    have Xc1 : (w11.alloc (.cells #[.int .i64 o, .int .i64 l, .int .i64 m, .slice none 0 0, .int .i64 0, .int .i64 (-1)] 32)).cell? ⟨w2.heap.size, 1, none⟩ = some (.int .i64 l) := X12.cell 1
    have Xc2 : (w11.alloc (.cells #[.int .i64 o, .int .i64 l, .int .i64 m, .slice none 0 0, .int .i64 0, .int .i64 (-1)] 32)).cell? ⟨w2.heap.size, 2, none⟩ = some (.int .i64 m) := X12.cell 2
    have Xc3 : (w11.alloc (.cells #[.int .i64 o, .int .i64 l, .int .i64 m, .slice none 0 0, .int .i64 0, .int .i64 (-1)] 32)).cell? ⟨w2.heap.size, 3, none⟩ = some (.slice none 0 0) := X12.cell 3
    have Xc4 : (w11.alloc (.cells #[.int .i64 o, .int .i64 l, .int .i64 m, .slice none 0 0, .int .i64 0, .int .i64 (-1)] 32)).cell? ⟨w2.heap.size, 4, none⟩ = some (.int .i64 0) := X12.cell 4
    have Xc5 : (w11.alloc (.cells #[.int .i64 o, .int .i64 l, .int .i64 m, .slice none 0 0, .int .i64 0, .int .i64 (-1)] 32)).cell? ⟨w2.heap.size, 5, none⟩ = some (.int .i64 (-1)) := X12.cell 5
    have Yc0 : (w11.alloc (.cells #[.int .i64 o, .int .i64 l, .int .i64 m, .slice none 0 0, .int .i64 0, .int .i64 (-1)] 32)).cell? ⟨w5.heap.size, 0, none⟩ = some (.int .i64 o) := Y12.cell 0
    have Yc1 : (w11.alloc (.cells #[.int .i64 o, .int .i64 l, .int .i64 m, .slice none 0 0, .int .i64 0, .int .i64 (-1)] 32)).cell? ⟨w5.heap.size, 1, none⟩ = some (.int .i64 l) := Y12.cell 1
    have Yc2 : (w11.alloc (.cells #[.int .i64 o, .int .i64 l, .int .i64 m, .slice none 0 0, .int .i64 0, .int .i64 (-1)] 32)).cell? ⟨w5.heap.size, 2, none⟩ = some (.int .i64 m) := Y12.cell 2
    have Yc3 : (w11.alloc (.cells #[.int .i64 o, .int .i64 l, .int .i64 m, .slice none 0 0, .int .i64 0, .int .i64 (-1)] 32)).cell? ⟨w5.heap.size, 3, none⟩ = some (.slice none 0 0) := Y12.cell 3
    have Yc4 : (w11.alloc (.cells #[.int .i64 o, .int .i64 l, .int .i64 m, .slice none 0 0, .int .i64 0, .int .i64 (-1)] 32)).cell? ⟨w5.heap.size, 4, none⟩ = some (.int .i64 0) := Y12.cell 4
    have Yc5 : (w11.alloc (.cells #[.int .i64 o, .int .i64 l, .int .i64 m, .slice none 0 0, .int .i64 0, .int .i64 (-1)] 32)).cell? ⟨w5.heap.size, 5, none⟩ = some (.int .i64 (-1)) := Y12.cell 5
    have Zc0 : (w11.alloc (.cells #[.int .i64 o, .int .i64 l, .int .i64 m, .slice none 0 0, .int .i64 0, .int .i64 (-1)] 32)).cell? ⟨w11.heap.size, 0, none⟩ = some (.int .i64 o) := Z12.cell 0
    have Zc1 : (w11.alloc (.cells #[.int .i64 o, .int .i64 l, .int .i64 m, .slice none 0 0, .int .i64 0, .int .i64 (-1)] 32)).cell? ⟨w11.heap.size, 1, none⟩ = some (.int .i64 l) := Z12.cell 1
    have Zc2 : (w11.alloc (.cells #[.int .i64 o, .int .i64 l, .int .i64 m, .slice none 0 0, .int .i64 0, .int .i64 (-1)] 32)).cell? ⟨w11.heap.size, 2, none⟩ = some (.int .i64 m) := Z12.cell 2
    have Zc3 : (w11.alloc (.cells #[.int .i64 o, .int .i64 l, .int .i64 m, .slice none 0 0, .int .i64 0, .int .i64 (-1)] 32)).cell? ⟨w11.heap.size, 3, none⟩ = some (.slice none 0 0) := Z12.cell 3
    have Zc4 : (w11.alloc (.cells #[.int .i64 o, .int .i64 l, .int .i64 m, .slice none 0 0, .int .i64 0, .int .i64 (-1)] 32)).cell? ⟨w11.heap.size, 4, none⟩ = some (.int .i64 0) := Z12.cell 4
    have Zc5 : (w11.alloc (.cells #[.int .i64 o, .int .i64 l, .int .i64 m, .slice none 0 0, .int .i64 0, .int .i64 (-1)] 32)).cell? ⟨w11.heap.size, 5, none⟩ = some (.int .i64 (-1)) := Z12.cell 5
    go_wp2_with fail
    refine (eq0 o l m 0 (-1) _).mono ?_; rintro e w13 ⟨rfl, hb⟩
    have B13 := below_next (Nat.le_refl _) B12 hb
    have S13 := S12.below hb S12.lt
    have X13 := X12.below hb X12.lt
    have Y13 := Y12.below hb Y12.lt
    have Z13 := Z12.below hb Z12.lt
    clear B12 hb S12 X12 Y12 Z12 Sc0 Sc1 Sc2 Xc0 Xc1 Xc2 Xc3 Xc4 Xc5 Yc0 Yc1 Yc2 Yc3 Yc4 Yc5 Zc0 Zc1 Zc2 Zc3 Zc4 Zc5
    have Sc0 : w13.cell? ⟨w.heap.size, 0, none⟩ = some (.int .i64 o) := S13.cell 0
    have Sc1 : w13.cell? ⟨w.heap.size, 1, none⟩ = some (.int .i64 l) := S13.cell 1
    have Sc2 : w13.cell? ⟨w.heap.size, 2, none⟩ = some (.int .i64 m) := S13.cell 2
    have Xc0 : w13.cell? ⟨w2.heap.size, 0, none⟩ = some (.int .i64 o) := X13.cell 0
    have Xc1 : w13.cell? ⟨w2.heap.size, 1, none⟩ = some (.int .i64 l) := X13.cell 1
    have Xc2 : w13.cell? ⟨w2.heap.size, 2, none⟩ = some (.int .i64 m) := X13.cell 2
    have Xc3 : w13.cell? ⟨w2.heap.size, 3, none⟩ = some (.slice none 0 0) := X13.cell 3
    have Xc4 : w13.cell? ⟨w2.heap.size, 4, none⟩ = some (.int .i64 0) := X13.cell 4
    have Xc5 : w13.cell? ⟨w2.heap.size, 5, none⟩ = some (.int .i64 (-1)) := X13.cell 5
    have Yc0 : w13.cell? ⟨w5.heap.size, 0, none⟩ = some (.int .i64 o) := Y13.cell 0
    have Yc1 : w13.cell? ⟨w5.heap.size, 1, none⟩ = some (.int .i64 l) := Y13.cell 1
    have Yc2 : w13.cell? ⟨w5.heap.size, 2, none⟩ = some (.int .i64 m) := Y13.cell 2
    have Yc3 : w13.cell? ⟨w5.heap.size, 3, none⟩ = some (.slice none 0 0) := Y13.cell 3
    have Yc4 : w13.cell? ⟨w5.heap.size, 4, none⟩ = some (.int .i64 0) := Y13.cell 4
    have Yc5 : w13.cell? ⟨w5.heap.size, 5, none⟩ = some (.int .i64 (-1)) := Y13.cell 5
    have Zc0 : w13.cell? ⟨w11.heap.size, 0, none⟩ = some (.int .i64 o) := Z13.cell 0
    have Zc1 : w13.cell? ⟨w11.heap.size, 1, none⟩ = some (.int .i64 l) := Z13.cell 1
    have Zc2 : w13.cell? ⟨w11.heap.size, 2, none⟩ = some (.int .i64 m) := Z13.cell 2
    have Zc3 : w13.cell? ⟨w11.heap.size, 3, none⟩ = some (.slice none 0 0) := Z13.cell 3
    have Zc4 : w13.cell? ⟨w11.heap.size, 4, none⟩ = some (.int .i64 0) := Z13.cell 4
    have Zc5 : w13.cell? ⟨w11.heap.size, 5, none⟩ = some (.int .i64 (-1)) := Z13.cell 5
    go_wp2_with fail
    refine (held0 o l m 0 (-1) _).mono ?_; rintro e w14 ⟨rfl, hb⟩
    have B14 := below_next (Nat.le_refl _) B13 hb
    have S14 := S13.below hb S13.lt
    have X14 := X13.below hb X13.lt
    have Y14 := Y13.below hb Y13.lt
    have Z14 := Z13.below hb Z13.lt
    clear B13 hb S13 X13 Y13 Z13 Sc0 Sc1 Sc2 Xc0 Xc1 Xc2 Xc3 Xc4 Xc5 Yc0 Yc1 Yc2 Yc3 Yc4 Yc5 Zc0 Zc1 Zc2 Zc3 Zc4 Zc5
    go_wp2_with fail
    go_ret
    exact ⟨rfl, B14⟩
end Go.Proofs.Ytflabakeiecfiaa

/- The walks of the exact laws on CodesValid, CodesData and CodesWidths. Conditions: the cells of the pairs and of the codes lie below the call's own memory. -/
import Derived.Test.YtegfcpdkehgdpaaCw3
import Derived.Test.YtegfcpdkehgdpaaKM
namespace Go.Proofs.Ytegfcpdkehgdpaa
open Go.RowKit

theorem Sx.wk_len {l m b : Int} : ∀ (xs : List Int) (ps : List (Int × Int)) (t : Int) (d : Nat) (r : List Int × List UInt8), Sx.wk l m b xs ps t d = some r → r.1.length = xs.length ∧ (d ≤ 2000 → d + r.2.length ≤ 2000)
  | [], ps, t, d, r, h => by
    rw [Sx.wk_nil] at h
    injection h with h
    subst h
    exact ⟨rfl, fun h => h⟩
  | x :: xs, ps, t, d, r, h => by
    by_cases h1 : x = Sx.two l + 1
    · by_cases h2 : xs = []
      · subst h2
        rw [Sx.wk_last h1] at h
        injection h with h
        subst h
        exact ⟨rfl, fun h => h⟩
      · rw [Sx.wk_more h1 h2] at h; cases h
    · cases hg : Sx.goB l m ps.length t x
      · rw [Sx.wk_bad h1 hg] at h; cases h
      · by_cases hd : d + (Sx.wdOf l ps t x).length ≤ 2000
        · rw [Sx.wk_go h1 hg hd] at h
          rcases hr : Sx.wk l m b xs (Sx.stepP l m ps b t x) (Sx.advT l x) (d + (Sx.wdOf l ps t x).length) with _ | r'
          · rw [hr] at h; cases h
          · rw [hr] at h
            injection h with h
            subst h
            have ih := Sx.wk_len xs _ _ _ r' hr
            refine ⟨by simp [ih.1], fun _ => ?_⟩
            have := ih.2 hd
            simp only [List.length_append]; omega
        · rw [Sx.wk_long h1 (by omega)] at h; cases h
theorem Sx.cw_len {o l m b t : Int} {ps : List (Int × Int)} {xs : List Int} : (Sx.cwW o l m b t ps xs).length ≤ 3100 ∧ (Sx.cwD o l m b t ps xs).length ≤ 2000 := by
  cases h : Sx.cwR o l m b t ps xs with
  | none => obtain ⟨_, h2, h3⟩ := Sx.cw_none h; rw [h2, h3]; exact ⟨by simp, by simp⟩
  | some r =>
    obtain ⟨ws, ds⟩ := r
    obtain ⟨_, h2, h3⟩ := Sx.cw_some h
    rw [h2, h3]
    unfold Sx.cwR at h
    split at h
    · rename_i hk
      obtain ⟨h4, h5⟩ := Sx.wk_len _ _ _ _ _ h
      have := h5 (by omega)
      simp only at h4 this
      omega
    · cases h

set_option maxRecDepth 100000 in
set_option maxHeartbeats 8000000 in
theorem law_FnExactCodesValid (o l m : Int) (A : Option Addr) (c : Nat) (b t : Int) (ps : List (Int × Int)) (A2 : Option Addr) (c2 : Nat) (xs : List Int) (w : World) (hr : PR w w.heap.size A ps) (hz : ps.length ≤ maxLen) (hr2 : IR w w.heap.size A2 xs) (hz2 : xs.length ≤ maxLen) :
    Calls Try.prog 4 #[kv o l m A ps.length c b t, .slice A2 xs.length c2] w fun e w' => e = .returned (.bool true) ∧ Below w.heap.size w w' := by
  unfold maxLen at hz hz2
  have B0 : Below w.heap.size w (w.alloc (.cells #[.int .i64 o, .int .i64 l, .int .i64 m, .slice A ps.length c, .int .i64 b, .int .i64 t] 26)) := (Below.refl _ _).alloc (Nat.le_refl _) _
  by_cases hm : xs.length ≤ 1048576
  · by_cases hn : ps.length ≤ 1048576
    · have CZ := hide (fun wx => by have := laws_szKnown o l m A ps.length c b t wx (by omega); rwa [if_pos hn] at this)
      have L0 := Blk.new w 26 #[.int .i64 o, .int .i64 l, .int .i64 m, .slice A ps.length c, .int .i64 b, .int .i64 t]
      have sw : (w.alloc (.cells #[.int .i64 o, .int .i64 l, .int .i64 m, .slice A ps.length c, .int .i64 b, .int .i64 t] 26)).heap.size = w.heap.size + 1 := World.size_alloc _ _
      have CS := hide (fun (A A2 : Option Addr) (wx : World) (hp : PR wx wx.heap.size A ps) (hi : IR wx wx.heap.size A2 xs) => spec_CodesValid o l m A ps.length b t ps A2 xs.length xs wx hp hn hi (by omega) (Nat.le_refl _))
      have CI := hide (fun (A A2 : Option Addr) (wx : World) (hp : PR wx wx.heap.size A ps) (hi : IR wx wx.heap.size A2 xs) => impl_CodesValid o l m A ps.length b t ps A2 xs.length xs wx hp hn hi (by omega))
      have n0 : ¬ 1048576 - (ps.length : Int) < 0 := by omega
      have n3 : ¬ (1048576 : Int) < (xs.length : Int) := by omega
      go_enter Try.func4, Try.ntmps4
      have Lc0 : (w.alloc (.cells #[.int .i64 o, .int .i64 l, .int .i64 m, .slice A ps.length c, .int .i64 b, .int .i64 t] 26)).cell? ⟨w.heap.size, 0, none⟩ = some (.int .i64 o) := L0.cell 0
      have Lc1 : (w.alloc (.cells #[.int .i64 o, .int .i64 l, .int .i64 m, .slice A ps.length c, .int .i64 b, .int .i64 t] 26)).cell? ⟨w.heap.size, 1, none⟩ = some (.int .i64 l) := L0.cell 1
      have Lc2 : (w.alloc (.cells #[.int .i64 o, .int .i64 l, .int .i64 m, .slice A ps.length c, .int .i64 b, .int .i64 t] 26)).cell? ⟨w.heap.size, 2, none⟩ = some (.int .i64 m) := L0.cell 2
      have Lc3 : (w.alloc (.cells #[.int .i64 o, .int .i64 l, .int .i64 m, .slice A ps.length c, .int .i64 b, .int .i64 t] 26)).cell? ⟨w.heap.size, 3, none⟩ = some (.slice A ps.length c) := L0.cell 3
      have Lc4 : (w.alloc (.cells #[.int .i64 o, .int .i64 l, .int .i64 m, .slice A ps.length c, .int .i64 b, .int .i64 t] 26)).cell? ⟨w.heap.size, 4, none⟩ = some (.int .i64 b) := L0.cell 4
      have Lc5 : (w.alloc (.cells #[.int .i64 o, .int .i64 l, .int .i64 m, .slice A ps.length c, .int .i64 b, .int .i64 t] 26)).cell? ⟨w.heap.size, 5, none⟩ = some (.int .i64 t) := L0.cell 5
      go_wp2_with fail
      refine ((unhide CZ) _).mono ?_; rintro e w1 ⟨rfl, hb⟩
      have s1 : (w.alloc (.cells #[.int .i64 o, .int .i64 l, .int .i64 m, .slice A ps.length c, .int .i64 b, .int .i64 t] 26)).heap.size ≤ w1.heap.size := Below.size hb
      have B1 := below_next (Nat.le_refl _) B0 hb
      have L1 := L0.below hb L0.lt
      clear B0 L0 Lc0 Lc1 Lc2 Lc3 Lc4 Lc5 hb
      have Lc0 : w1.cell? ⟨w.heap.size, 0, none⟩ = some (.int .i64 o) := L1.cell 0
      have Lc1 : w1.cell? ⟨w.heap.size, 1, none⟩ = some (.int .i64 l) := L1.cell 1
      have Lc2 : w1.cell? ⟨w.heap.size, 2, none⟩ = some (.int .i64 m) := L1.cell 2
      have Lc3 : w1.cell? ⟨w.heap.size, 3, none⟩ = some (.slice A ps.length c) := L1.cell 3
      have Lc4 : w1.cell? ⟨w.heap.size, 4, none⟩ = some (.int .i64 b) := L1.cell 4
      have Lc5 : w1.cell? ⟨w.heap.size, 5, none⟩ = some (.int .i64 t) := L1.cell 5
      go_wp2_with fail
      refine (laws_toKnown o l m A c b t ps _ (hr.keep B1.size B1) hn).mono ?_; rintro e w2 ⟨g0, rfl, hg, hQ, hb⟩
      have s2 : w1.heap.size ≤ w2.heap.size := Below.size hb
      have B2 := below_next (Nat.le_refl _) B1 hb
      have L2 := L1.below hb L1.lt
      clear B1 L1 Lc0 Lc1 Lc2 Lc3 Lc4 Lc5 hb
      have Q0_2 := OwnV.of_blk hQ hg hQ.lt
      clear hQ hg
      have Lc0 : w2.cell? ⟨w.heap.size, 0, none⟩ = some (.int .i64 o) := L2.cell 0
      have Lc1 : w2.cell? ⟨w.heap.size, 1, none⟩ = some (.int .i64 l) := L2.cell 1
      have Lc2 : w2.cell? ⟨w.heap.size, 2, none⟩ = some (.int .i64 m) := L2.cell 2
      have Lc3 : w2.cell? ⟨w.heap.size, 3, none⟩ = some (.slice A ps.length c) := L2.cell 3
      have Lc4 : w2.cell? ⟨w.heap.size, 4, none⟩ = some (.int .i64 b) := L2.cell 4
      have Lc5 : w2.cell? ⟨w.heap.size, 5, none⟩ = some (.int .i64 t) := L2.cell 5
      go_wp2_with fail
      refine (laws_toIntS A2 c2 xs _ (hr2.keep B2.size B2) hm).mono ?_; rintro e w3 ⟨h0, rfl, hI, hb⟩
      have s3 : w2.heap.size ≤ w3.heap.size := Below.size hb
      have B3 := below_next (Nat.le_refl _) B2 hb
      have L3 := L2.below hb L2.lt
      have Q0_3 := Q0_2.below hb
      clear B2 L2 Q0_2 Lc0 Lc1 Lc2 Lc3 Lc4 Lc5 hb
      have I0_3 := OwnV.ints hI
      clear hI
      have Lc0 : w3.cell? ⟨w.heap.size, 0, none⟩ = some (.int .i64 o) := L3.cell 0
      have Lc1 : w3.cell? ⟨w.heap.size, 1, none⟩ = some (.int .i64 l) := L3.cell 1
      have Lc2 : w3.cell? ⟨w.heap.size, 2, none⟩ = some (.int .i64 m) := L3.cell 2
      have Lc3 : w3.cell? ⟨w.heap.size, 3, none⟩ = some (.slice A ps.length c) := L3.cell 3
      have Lc4 : w3.cell? ⟨w.heap.size, 4, none⟩ = some (.int .i64 b) := L3.cell 4
      have Lc5 : w3.cell? ⟨w.heap.size, 5, none⟩ = some (.int .i64 t) := L3.cell 5
      go_wp2_with fail
      refine ((unhide CS) _ _ _ (Q0_3.pr (Nat.le_refl _)) (I0_3.ir (Nat.le_refl _))).mono ?_; rintro e w4 ⟨rfl, hb⟩
      have s4 : w3.heap.size ≤ w4.heap.size := Below.size hb
      have B4 := below_next (Nat.le_refl _) B3 hb
      have L4 := L3.below hb L3.lt
      have Q0_4 := Q0_3.below hb
      have I0_4 := I0_3.below hb
      clear B3 L3 Q0_3 I0_3 Lc0 Lc1 Lc2 Lc3 Lc4 Lc5 hb
      clear Q0_4 I0_4
      have Lc0 : w4.cell? ⟨w.heap.size, 0, none⟩ = some (.int .i64 o) := L4.cell 0
      have Lc1 : w4.cell? ⟨w.heap.size, 1, none⟩ = some (.int .i64 l) := L4.cell 1
      have Lc2 : w4.cell? ⟨w.heap.size, 2, none⟩ = some (.int .i64 m) := L4.cell 2
      have Lc3 : w4.cell? ⟨w.heap.size, 3, none⟩ = some (.slice A ps.length c) := L4.cell 3
      have Lc4 : w4.cell? ⟨w.heap.size, 4, none⟩ = some (.int .i64 b) := L4.cell 4
      have Lc5 : w4.cell? ⟨w.heap.size, 5, none⟩ = some (.int .i64 t) := L4.cell 5
      go_wp2_with fail
      refine (laws_toKnown o l m A c b t ps _ (hr.keep B4.size B4) hn).mono ?_; rintro e w5 ⟨g1, rfl, hg, hQ, hb⟩
      have s5 : w4.heap.size ≤ w5.heap.size := Below.size hb
      have B5 := below_next (Nat.le_refl _) B4 hb
      have L5 := L4.below hb L4.lt
      clear B4 L4 Lc0 Lc1 Lc2 Lc3 Lc4 Lc5 hb
      have Q1_5 := OwnV.of_blk hQ hg hQ.lt
      clear hQ hg
      have s6 : (w5.alloc (.cells #[.int .i64 o, .int .i64 l, .int .i64 m, .slice (some ⟨g1, 0, none⟩) ps.length ps.length, .int .i64 b, .int .i64 t] 31)).heap.size = w5.heap.size + 1 := World.size_alloc _ _
      have B6 := B5.alloc B5.size (.cells #[.int .i64 o, .int .i64 l, .int .i64 m, .slice (some ⟨g1, 0, none⟩) ps.length ps.length, .int .i64 b, .int .i64 t] 31)
      have L6 := L5.alloc (.cells #[.int .i64 o, .int .i64 l, .int .i64 m, .slice (some ⟨g1, 0, none⟩) ps.length ps.length, .int .i64 b, .int .i64 t] 31)
      have Q1_6 := Q1_5.alloc (.cells #[.int .i64 o, .int .i64 l, .int .i64 m, .slice (some ⟨g1, 0, none⟩) ps.length ps.length, .int .i64 b, .int .i64 t] 31)
      have X6 := Blk.new w5 31 #[.int .i64 o, .int .i64 l, .int .i64 m, .slice (some ⟨g1, 0, none⟩) ps.length ps.length, .int .i64 b, .int .i64 t]
      clear B5 L5 Q1_5
      have Lc0 : (w5.alloc (.cells #[.int .i64 o, .int .i64 l, .int .i64 m, .slice (some ⟨g1, 0, none⟩) ps.length ps.length, .int .i64 b, .int .i64 t] 31)).cell? ⟨w.heap.size, 0, none⟩ = some (.int .i64 o) := L6.cell 0
      have Lc1 : (w5.alloc (.cells #[.int .i64 o, .int .i64 l, .int .i64 m, .slice (some ⟨g1, 0, none⟩) ps.length ps.length, .int .i64 b, .int .i64 t] 31)).cell? ⟨w.heap.size, 1, none⟩ = some (.int .i64 l) := L6.cell 1
      have Lc2 : (w5.alloc (.cells #[.int .i64 o, .int .i64 l, .int .i64 m, .slice (some ⟨g1, 0, none⟩) ps.length ps.length, .int .i64 b, .int .i64 t] 31)).cell? ⟨w.heap.size, 2, none⟩ = some (.int .i64 m) := L6.cell 2
      have Lc3 : (w5.alloc (.cells #[.int .i64 o, .int .i64 l, .int .i64 m, .slice (some ⟨g1, 0, none⟩) ps.length ps.length, .int .i64 b, .int .i64 t] 31)).cell? ⟨w.heap.size, 3, none⟩ = some (.slice A ps.length c) := L6.cell 3
      have Lc4 : (w5.alloc (.cells #[.int .i64 o, .int .i64 l, .int .i64 m, .slice (some ⟨g1, 0, none⟩) ps.length ps.length, .int .i64 b, .int .i64 t] 31)).cell? ⟨w.heap.size, 4, none⟩ = some (.int .i64 b) := L6.cell 4
      have Lc5 : (w5.alloc (.cells #[.int .i64 o, .int .i64 l, .int .i64 m, .slice (some ⟨g1, 0, none⟩) ps.length ps.length, .int .i64 b, .int .i64 t] 31)).cell? ⟨w.heap.size, 5, none⟩ = some (.int .i64 t) := L6.cell 5
      have Xc0 : (w5.alloc (.cells #[.int .i64 o, .int .i64 l, .int .i64 m, .slice (some ⟨g1, 0, none⟩) ps.length ps.length, .int .i64 b, .int .i64 t] 31)).cell? ⟨w5.heap.size, 0, none⟩ = some (.int .i64 o) := X6.cell 0
      have Xc1 : (w5.alloc (.cells #[.int .i64 o, .int .i64 l, .int .i64 m, .slice (some ⟨g1, 0, none⟩) ps.length ps.length, .int .i64 b, .int .i64 t] 31)).cell? ⟨w5.heap.size, 1, none⟩ = some (.int .i64 l) := X6.cell 1
      have Xc2 : (w5.alloc (.cells #[.int .i64 o, .int .i64 l, .int .i64 m, .slice (some ⟨g1, 0, none⟩) ps.length ps.length, .int .i64 b, .int .i64 t] 31)).cell? ⟨w5.heap.size, 2, none⟩ = some (.int .i64 m) := X6.cell 2
      have Xc3 : (w5.alloc (.cells #[.int .i64 o, .int .i64 l, .int .i64 m, .slice (some ⟨g1, 0, none⟩) ps.length ps.length, .int .i64 b, .int .i64 t] 31)).cell? ⟨w5.heap.size, 3, none⟩ = some (.slice (some ⟨g1, 0, none⟩) ps.length ps.length) := X6.cell 3
      have Xc4 : (w5.alloc (.cells #[.int .i64 o, .int .i64 l, .int .i64 m, .slice (some ⟨g1, 0, none⟩) ps.length ps.length, .int .i64 b, .int .i64 t] 31)).cell? ⟨w5.heap.size, 4, none⟩ = some (.int .i64 b) := X6.cell 4
      have Xc5 : (w5.alloc (.cells #[.int .i64 o, .int .i64 l, .int .i64 m, .slice (some ⟨g1, 0, none⟩) ps.length ps.length, .int .i64 b, .int .i64 t] 31)).cell? ⟨w5.heap.size, 5, none⟩ = some (.int .i64 t) := X6.cell 5
      go_wp2_with fail
      refine (laws_toIntS A2 c2 xs _ (hr2.keep B6.size B6) hm).mono ?_; rintro e w6 ⟨h1, rfl, hI, hb⟩
      have s7 : (w5.alloc (.cells #[.int .i64 o, .int .i64 l, .int .i64 m, .slice (some ⟨g1, 0, none⟩) ps.length ps.length, .int .i64 b, .int .i64 t] 31)).heap.size ≤ w6.heap.size := Below.size hb
      have B7 := below_next (Nat.le_refl _) B6 hb
      have L7 := L6.below hb L6.lt
      have X7 := X6.below hb X6.lt
      have Q1_7 := Q1_6.below hb
      clear B6 L6 X6 Q1_6 Lc0 Lc1 Lc2 Lc3 Lc4 Lc5 Xc0 Xc1 Xc2 Xc3 Xc4 Xc5 hb
      have I1_7 := OwnV.ints hI
      clear hI
      have Lc0 : w6.cell? ⟨w.heap.size, 0, none⟩ = some (.int .i64 o) := L7.cell 0
      have Lc1 : w6.cell? ⟨w.heap.size, 1, none⟩ = some (.int .i64 l) := L7.cell 1
      have Lc2 : w6.cell? ⟨w.heap.size, 2, none⟩ = some (.int .i64 m) := L7.cell 2
      have Lc3 : w6.cell? ⟨w.heap.size, 3, none⟩ = some (.slice A ps.length c) := L7.cell 3
      have Lc4 : w6.cell? ⟨w.heap.size, 4, none⟩ = some (.int .i64 b) := L7.cell 4
      have Lc5 : w6.cell? ⟨w.heap.size, 5, none⟩ = some (.int .i64 t) := L7.cell 5
      have Xc0 : w6.cell? ⟨w5.heap.size, 0, none⟩ = some (.int .i64 o) := X7.cell 0
      have Xc1 : w6.cell? ⟨w5.heap.size, 1, none⟩ = some (.int .i64 l) := X7.cell 1
      have Xc2 : w6.cell? ⟨w5.heap.size, 2, none⟩ = some (.int .i64 m) := X7.cell 2
      have Xc3 : w6.cell? ⟨w5.heap.size, 3, none⟩ = some (.slice (some ⟨g1, 0, none⟩) ps.length ps.length) := X7.cell 3
      have Xc4 : w6.cell? ⟨w5.heap.size, 4, none⟩ = some (.int .i64 b) := X7.cell 4
      have Xc5 : w6.cell? ⟨w5.heap.size, 5, none⟩ = some (.int .i64 t) := X7.cell 5
      go_wp2_with fail
      refine ((unhide CI) _ _ _ (Q1_7.pr (Nat.le_refl _)) (I1_7.ir (Nat.le_refl _))).mono ?_; rintro e w7 ⟨rfl, hb⟩
      have s8 : w6.heap.size ≤ w7.heap.size := Below.size hb
      have B8 := below_next (Nat.le_refl _) B7 hb
      have L8 := L7.below hb L7.lt
      have X8 := X7.below hb X7.lt
      have Q1_8 := Q1_7.below hb
      have I1_8 := I1_7.below hb
      clear B7 L7 X7 Q1_7 I1_7 Lc0 Lc1 Lc2 Lc3 Lc4 Lc5 Xc0 Xc1 Xc2 Xc3 Xc4 Xc5 hb
      have Xc0 : w7.cell? ⟨w5.heap.size, 0, none⟩ = some (.int .i64 o) := X8.cell 0
      have Xc1 : w7.cell? ⟨w5.heap.size, 1, none⟩ = some (.int .i64 l) := X8.cell 1
      have Xc2 : w7.cell? ⟨w5.heap.size, 2, none⟩ = some (.int .i64 m) := X8.cell 2
      have Xc3 : w7.cell? ⟨w5.heap.size, 3, none⟩ = some (.slice (some ⟨g1, 0, none⟩) ps.length ps.length) := X8.cell 3
      have Xc4 : w7.cell? ⟨w5.heap.size, 4, none⟩ = some (.int .i64 b) := X8.cell 4
      have Xc5 : w7.cell? ⟨w5.heap.size, 5, none⟩ = some (.int .i64 t) := X8.cell 5
      have Lc0 : w7.cell? ⟨w.heap.size, 0, none⟩ = some (.int .i64 o) := L8.cell 0
      have Lc1 : w7.cell? ⟨w.heap.size, 1, none⟩ = some (.int .i64 l) := L8.cell 1
      have Lc2 : w7.cell? ⟨w.heap.size, 2, none⟩ = some (.int .i64 m) := L8.cell 2
      have Lc3 : w7.cell? ⟨w.heap.size, 3, none⟩ = some (.slice A ps.length c) := L8.cell 3
      have Lc4 : w7.cell? ⟨w.heap.size, 4, none⟩ = some (.int .i64 b) := L8.cell 4
      have Lc5 : w7.cell? ⟨w.heap.size, 5, none⟩ = some (.int .i64 t) := L8.cell 5
      go_wp2_with fail
      have s0 : Below w7.heap.size w7 w7.drew ∧ w7.drew.cell? ⟨w5.heap.size, 0, none⟩ = some (.int .i64 o) ∧ w7.drew.cell? ⟨w5.heap.size, 1, none⟩ = some (.int .i64 l) ∧ w7.drew.cell? ⟨w5.heap.size, 2, none⟩ = some (.int .i64 m) ∧ w7.drew.cell? ⟨w5.heap.size, 3, none⟩ = some (.slice (some ⟨g1, 0, none⟩) ps.length ps.length) ∧ w7.drew.cell? ⟨w5.heap.size, 4, none⟩ = some (.int .i64 b) ∧ w7.drew.cell? ⟨w5.heap.size, 5, none⟩ = some (.int .i64 t) ∧ w7.drew.cell? ⟨w.heap.size, 0, none⟩ = some (.int .i64 o) ∧ w7.drew.cell? ⟨w.heap.size, 1, none⟩ = some (.int .i64 l) ∧ w7.drew.cell? ⟨w.heap.size, 2, none⟩ = some (.int .i64 m) ∧ w7.drew.cell? ⟨w.heap.size, 3, none⟩ = some (.slice A ps.length c) ∧ w7.drew.cell? ⟨w.heap.size, 4, none⟩ = some (.int .i64 b) ∧ w7.drew.cell? ⟨w.heap.size, 5, none⟩ = some (.int .i64 t) := ⟨(Below.refl _ _).drew, X8.cell 0, X8.cell 1, X8.cell 2, X8.cell 3, X8.cell 4, X8.cell 5, L8.cell 0, L8.cell 1, L8.cell 2, L8.cell 3, L8.cell 4, L8.cell 5⟩
      clear Xc0 Xc1 Xc2 Xc3 Xc4 Xc5 Lc0 Lc1 Lc2 Lc3 Lc4 Lc5
      refine wp_region_held_drew (S := (fun W => Below w7.heap.size w7 W ∧ W.cell? ⟨w5.heap.size, 0, none⟩ = some (.int .i64 o) ∧ W.cell? ⟨w5.heap.size, 1, none⟩ = some (.int .i64 l) ∧ W.cell? ⟨w5.heap.size, 2, none⟩ = some (.int .i64 m) ∧ W.cell? ⟨w5.heap.size, 3, none⟩ = some (.slice (some ⟨g1, 0, none⟩) ps.length ps.length) ∧ W.cell? ⟨w5.heap.size, 4, none⟩ = some (.int .i64 b) ∧ W.cell? ⟨w5.heap.size, 5, none⟩ = some (.int .i64 t) ∧ W.cell? ⟨w.heap.size, 0, none⟩ = some (.int .i64 o) ∧ W.cell? ⟨w.heap.size, 1, none⟩ = some (.int .i64 l) ∧ W.cell? ⟨w.heap.size, 2, none⟩ = some (.int .i64 m) ∧ W.cell? ⟨w.heap.size, 3, none⟩ = some (.slice A ps.length c) ∧ W.cell? ⟨w.heap.size, 4, none⟩ = some (.int .i64 b) ∧ W.cell? ⟨w.heap.size, 5, none⟩ = some (.int .i64 t))) (by kernel_rfl) (by first | assumption | exact s0 | exact keep12 (by assumption) (by assumption)) (fun hHeld => ?_)
      refine wpAnyH_take (i := 0) (oi := { dst := some 33, op := Op.load 31 (Operand.tmp 7), type := 31, pos := "exact.go:1541", after := #[], guard := none }) (v := ?_) rfl (by kernel_rfl) (by kernel_rfl) (by kernel_rfl) (fun _ _ _ h => h) (Or.inl ⟨by rfl, ?_⟩) (by assumption) ?_; rotate_left
      · intro W hW; (try dsimp only at hW); go_simp;  try (with_reducible rfl)
      try simp only [Act.put, List.setIfInBounds_toArray, List.set_cons_zero, List.set_cons_succ]
      refine wpAnyH_take (i := 1) (oi := { dst := some 34, op := Op.load 26 (Operand.tmp 2), type := 26, pos := "exact.go:1541", after := #[], guard := none }) (v := ?_) rfl (by kernel_rfl) (by kernel_rfl) (by kernel_rfl) (fun _ _ _ h => h) (Or.inl ⟨by rfl, ?_⟩) (by assumption) ?_; rotate_left
      · intro W hW; (try dsimp only at hW); go_simp;  try (with_reducible rfl)
      try simp only [Act.put, List.setIfInBounds_toArray, List.set_cons_zero, List.set_cons_succ]
      refine wpAnyH_ready (rs := [2]) (by kernel_rfl) (by simp) (AllReadyH.cons (i := 2) (o := { dst := some 35, op := Op.call { callee := Callee.value (Operand.func 16), args := #[Operand.tmp 34], argTypes := #[26] }, type := 31, pos := "exact.go:1541", after := #[{ on := 1, ground := Ground.data }], guard := none }) rfl (fun K hK => ?_) AllReadyH.nil)
      go_simp
      refine (laws_toKnown o l m A c b t ps _ (hr.keep (Nat.le_trans B8.size hHeld.1.size) (below_next (Nat.le_refl _) B8 hHeld.1)) hn).mono ?_; rintro e w' ⟨g8, rfl, hg8, hQ8, hb⟩
      try go_wp2_with fail
      refine hK.out _ _ (by (try dsimp only); first | assumption | exact s0 | exact keep12 (by assumption) (by assumption)) (fun hHeld => ?_)
      clear hK K
      try simp only [Act.put, List.setIfInBounds_toArray, List.set_cons_zero, List.set_cons_succ]
      refine wpAnyH_ready (rs := [3]) (by kernel_rfl) (by simp) (AllReadyH.cons (i := 3) (o := { dst := some 36, op := Op.call { callee := Callee.value (Operand.func 18), args := #[Operand.tmp 33, Operand.tmp 35], argTypes := #[31, 31] }, type := 4, pos := "exact.go:1541", after := #[{ on := 0, ground := Ground.data }, { on := 2, ground := Ground.data }, { on := 2, ground := Ground.chain }], guard := none }) rfl (fun K hK => ?_) AllReadyH.nil)
      go_simp
      have XQ := Q1_8.below hHeld.1
      refine (laws_eqKnown o l m (some ⟨g1, 0, none⟩) (some ⟨g8, 0, none⟩) ps.length ps.length b t ps _ (XQ.pr (Nat.le_refl _)) (PR.of_blk hQ8 hQ8.lt) hn).mono ?_; rintro e wq ⟨rfl, hb⟩
      try go_wp2_with fail
      refine hK.out _ _ (by (try dsimp only); first | assumption | exact s0 | exact keep12 (by assumption) (by assumption)) (fun hHeld => ?_)
      clear hK K
      try simp only [Act.put, List.setIfInBounds_toArray, List.set_cons_zero, List.set_cons_succ]
      refine wpAnyH_take (i := 4) (oi := { dst := some 37, op := Op.unOp UnOp.not 4 (Operand.tmp 36), type := 4, pos := "exact.go:1541", after := #[{ on := 3, ground := Ground.data }], guard := none }) (v := ?_) rfl (by kernel_rfl) (by kernel_rfl) (by kernel_rfl) (fun _ _ _ h => h) (Or.inl ⟨by rfl, ?_⟩) (by assumption) ?_; rotate_left
      · intro W hW; (try dsimp only at hW); go_simp;  try (with_reducible rfl)
      try simp only [Act.put, List.setIfInBounds_toArray, List.set_cons_zero, List.set_cons_succ]
      refine wpAnyH_done (by kernel_rfl) ?_ _
      have hE := hHeld.1
      clear hHeld s0
      have s9 : w7.heap.size ≤ wq.heap.size := Below.size hE
      have B9 := below_next (Nat.le_refl _) B8 hE
      have L9 := L8.below hE L8.lt
      have X9 := X8.below hE X8.lt
      have Q1_9 := Q1_8.below hE
      have I1_9 := I1_8.below hE
      clear B8 L8 X8 Q1_8 I1_8 hE
      have Lc0 : wq.cell? ⟨w.heap.size, 0, none⟩ = some (.int .i64 o) := L9.cell 0
      have Lc1 : wq.cell? ⟨w.heap.size, 1, none⟩ = some (.int .i64 l) := L9.cell 1
      have Lc2 : wq.cell? ⟨w.heap.size, 2, none⟩ = some (.int .i64 m) := L9.cell 2
      have Lc3 : wq.cell? ⟨w.heap.size, 3, none⟩ = some (.slice A ps.length c) := L9.cell 3
      have Lc4 : wq.cell? ⟨w.heap.size, 4, none⟩ = some (.int .i64 b) := L9.cell 4
      have Lc5 : wq.cell? ⟨w.heap.size, 5, none⟩ = some (.int .i64 t) := L9.cell 5
      have Xc0 : wq.cell? ⟨w5.heap.size, 0, none⟩ = some (.int .i64 o) := X9.cell 0
      have Xc1 : wq.cell? ⟨w5.heap.size, 1, none⟩ = some (.int .i64 l) := X9.cell 1
      have Xc2 : wq.cell? ⟨w5.heap.size, 2, none⟩ = some (.int .i64 m) := X9.cell 2
      have Xc3 : wq.cell? ⟨w5.heap.size, 3, none⟩ = some (.slice (some ⟨g1, 0, none⟩) ps.length ps.length) := X9.cell 3
      have Xc4 : wq.cell? ⟨w5.heap.size, 4, none⟩ = some (.int .i64 b) := X9.cell 4
      have Xc5 : wq.cell? ⟨w5.heap.size, 5, none⟩ = some (.int .i64 t) := X9.cell 5
      go_wp2_with fail
      refine (laws_toIntS A2 c2 xs _ (hr2.keep B9.size B9) hm).mono ?_; rintro e w8 ⟨h9, rfl, hI, hb⟩
      have s10 : wq.heap.size ≤ w8.heap.size := Below.size hb
      have B10 := below_next (Nat.le_refl _) B9 hb
      have L10 := L9.below hb L9.lt
      have X10 := X9.below hb X9.lt
      have Q1_10 := Q1_9.below hb
      have I1_10 := I1_9.below hb
      clear B9 L9 X9 Q1_9 I1_9 Lc0 Lc1 Lc2 Lc3 Lc4 Lc5 Xc0 Xc1 Xc2 Xc3 Xc4 Xc5 hb
      have Lc0 : w8.cell? ⟨w.heap.size, 0, none⟩ = some (.int .i64 o) := L10.cell 0
      have Lc1 : w8.cell? ⟨w.heap.size, 1, none⟩ = some (.int .i64 l) := L10.cell 1
      have Lc2 : w8.cell? ⟨w.heap.size, 2, none⟩ = some (.int .i64 m) := L10.cell 2
      have Lc3 : w8.cell? ⟨w.heap.size, 3, none⟩ = some (.slice A ps.length c) := L10.cell 3
      have Lc4 : w8.cell? ⟨w.heap.size, 4, none⟩ = some (.int .i64 b) := L10.cell 4
      have Lc5 : w8.cell? ⟨w.heap.size, 5, none⟩ = some (.int .i64 t) := L10.cell 5
      have Xc0 : w8.cell? ⟨w5.heap.size, 0, none⟩ = some (.int .i64 o) := X10.cell 0
      have Xc1 : w8.cell? ⟨w5.heap.size, 1, none⟩ = some (.int .i64 l) := X10.cell 1
      have Xc2 : w8.cell? ⟨w5.heap.size, 2, none⟩ = some (.int .i64 m) := X10.cell 2
      have Xc3 : w8.cell? ⟨w5.heap.size, 3, none⟩ = some (.slice (some ⟨g1, 0, none⟩) ps.length ps.length) := X10.cell 3
      have Xc4 : w8.cell? ⟨w5.heap.size, 4, none⟩ = some (.int .i64 b) := X10.cell 4
      have Xc5 : w8.cell? ⟨w5.heap.size, 5, none⟩ = some (.int .i64 t) := X10.cell 5
      go_wp2_with fail
      refine (laws_eqIntS (some ⟨h1, 0, none⟩) (some ⟨h9, 0, none⟩) xs.length xs.length xs _ (I1_10.ir (Nat.le_refl _)) ((OwnI.ir hI) (Nat.le_refl _)) (by omega)).mono ?_; rintro e w9 ⟨rfl, hb⟩
      have s11 : w8.heap.size ≤ w9.heap.size := Below.size hb
      have B11 := below_next (Nat.le_refl _) B10 hb
      have L11 := L10.below hb L10.lt
      have X11 := X10.below hb X10.lt
      have Q1_11 := Q1_10.below hb
      have I1_11 := I1_10.below hb
      clear B10 L10 X10 Q1_10 I1_10 Lc0 Lc1 Lc2 Lc3 Lc4 Lc5 Xc0 Xc1 Xc2 Xc3 Xc4 Xc5 hb hI
      go_wp2_with fail
      go_ret
      exact ⟨rfl, B11⟩
    · have CZ := hide (fun wx => by have := laws_szKnown o l m A ps.length c b t wx (by omega); rwa [if_neg hn] at this)
      have n3 : ¬ (1048576 : Int) < (xs.length : Int) := by omega
      go_enter Try.func4, Try.ntmps4
      go_wp2_with fail
      refine ((unhide CZ) _).mono ?_; rintro e w1 ⟨rfl, hb1⟩
      go_wp2_with fail
      go_ret
      exact ⟨rfl, below_next (Nat.le_refl _) B0 hb1⟩
  · have n3 : (1048576 : Int) < (xs.length : Int) := by omega
    go_enter Try.func4, Try.ntmps4
    go_wp2_with fail
    go_ret
    exact ⟨rfl, B0⟩

set_option maxRecDepth 100000 in
set_option maxHeartbeats 8000000 in
theorem law_FnExactCodesData (o l m : Int) (A : Option Addr) (c : Nat) (b t : Int) (ps : List (Int × Int)) (A2 : Option Addr) (c2 : Nat) (xs : List Int) (w : World) (hr : PR w w.heap.size A ps) (hz : ps.length ≤ maxLen) (hr2 : IR w w.heap.size A2 xs) (hz2 : xs.length ≤ maxLen) :
    Calls Try.prog 5 #[kv o l m A ps.length c b t, .slice A2 xs.length c2] w fun e w' => e = .returned (.bool true) ∧ Below w.heap.size w w' := by
  unfold maxLen at hz hz2
  have B0 : Below w.heap.size w (w.alloc (.cells #[.int .i64 o, .int .i64 l, .int .i64 m, .slice A ps.length c, .int .i64 b, .int .i64 t] 26)) := (Below.refl _ _).alloc (Nat.le_refl _) _
  by_cases hm : xs.length ≤ 1048576
  · by_cases hn : ps.length ≤ 1048576
    · have CZ := hide (fun wx => by have := laws_szKnown o l m A ps.length c b t wx (by omega); rwa [if_pos hn] at this)
      have L0 := Blk.new w 26 #[.int .i64 o, .int .i64 l, .int .i64 m, .slice A ps.length c, .int .i64 b, .int .i64 t]
      have sw : (w.alloc (.cells #[.int .i64 o, .int .i64 l, .int .i64 m, .slice A ps.length c, .int .i64 b, .int .i64 t] 26)).heap.size = w.heap.size + 1 := World.size_alloc _ _
      have CS := hide (fun (A A2 : Option Addr) (wx : World) (hp : PR wx wx.heap.size A ps) (hi : IR wx wx.heap.size A2 xs) => spec_CodesData o l m A ps.length b t ps A2 xs.length xs wx hp hn hi (by omega) (Nat.le_refl _))
      have CI := hide (fun (A A2 : Option Addr) (wx : World) (hp : PR wx wx.heap.size A ps) (hi : IR wx wx.heap.size A2 xs) => impl_CodesData o l m A ps.length b t ps A2 xs.length xs wx hp hn hi (by omega))
      have n0 : ¬ 1048576 - (ps.length : Int) < 0 := by omega
      have n3 : ¬ (1048576 : Int) < (xs.length : Int) := by omega
      go_enter Try.func5, Try.ntmps5
      have Lc0 : (w.alloc (.cells #[.int .i64 o, .int .i64 l, .int .i64 m, .slice A ps.length c, .int .i64 b, .int .i64 t] 26)).cell? ⟨w.heap.size, 0, none⟩ = some (.int .i64 o) := L0.cell 0
      have Lc1 : (w.alloc (.cells #[.int .i64 o, .int .i64 l, .int .i64 m, .slice A ps.length c, .int .i64 b, .int .i64 t] 26)).cell? ⟨w.heap.size, 1, none⟩ = some (.int .i64 l) := L0.cell 1
      have Lc2 : (w.alloc (.cells #[.int .i64 o, .int .i64 l, .int .i64 m, .slice A ps.length c, .int .i64 b, .int .i64 t] 26)).cell? ⟨w.heap.size, 2, none⟩ = some (.int .i64 m) := L0.cell 2
      have Lc3 : (w.alloc (.cells #[.int .i64 o, .int .i64 l, .int .i64 m, .slice A ps.length c, .int .i64 b, .int .i64 t] 26)).cell? ⟨w.heap.size, 3, none⟩ = some (.slice A ps.length c) := L0.cell 3
      have Lc4 : (w.alloc (.cells #[.int .i64 o, .int .i64 l, .int .i64 m, .slice A ps.length c, .int .i64 b, .int .i64 t] 26)).cell? ⟨w.heap.size, 4, none⟩ = some (.int .i64 b) := L0.cell 4
      have Lc5 : (w.alloc (.cells #[.int .i64 o, .int .i64 l, .int .i64 m, .slice A ps.length c, .int .i64 b, .int .i64 t] 26)).cell? ⟨w.heap.size, 5, none⟩ = some (.int .i64 t) := L0.cell 5
      go_wp2_with fail
      refine ((unhide CZ) _).mono ?_; rintro e w1 ⟨rfl, hb⟩
      have s1 : (w.alloc (.cells #[.int .i64 o, .int .i64 l, .int .i64 m, .slice A ps.length c, .int .i64 b, .int .i64 t] 26)).heap.size ≤ w1.heap.size := Below.size hb
      have B1 := below_next (Nat.le_refl _) B0 hb
      have L1 := L0.below hb L0.lt
      clear B0 L0 Lc0 Lc1 Lc2 Lc3 Lc4 Lc5 hb
      have Lc0 : w1.cell? ⟨w.heap.size, 0, none⟩ = some (.int .i64 o) := L1.cell 0
      have Lc1 : w1.cell? ⟨w.heap.size, 1, none⟩ = some (.int .i64 l) := L1.cell 1
      have Lc2 : w1.cell? ⟨w.heap.size, 2, none⟩ = some (.int .i64 m) := L1.cell 2
      have Lc3 : w1.cell? ⟨w.heap.size, 3, none⟩ = some (.slice A ps.length c) := L1.cell 3
      have Lc4 : w1.cell? ⟨w.heap.size, 4, none⟩ = some (.int .i64 b) := L1.cell 4
      have Lc5 : w1.cell? ⟨w.heap.size, 5, none⟩ = some (.int .i64 t) := L1.cell 5
      go_wp2_with fail
      refine (laws_toKnown o l m A c b t ps _ (hr.keep B1.size B1) hn).mono ?_; rintro e w2 ⟨g0, rfl, hg, hQ, hb⟩
      have s2 : w1.heap.size ≤ w2.heap.size := Below.size hb
      have B2 := below_next (Nat.le_refl _) B1 hb
      have L2 := L1.below hb L1.lt
      clear B1 L1 Lc0 Lc1 Lc2 Lc3 Lc4 Lc5 hb
      have Q0_2 := OwnV.of_blk hQ hg hQ.lt
      clear hQ hg
      have Lc0 : w2.cell? ⟨w.heap.size, 0, none⟩ = some (.int .i64 o) := L2.cell 0
      have Lc1 : w2.cell? ⟨w.heap.size, 1, none⟩ = some (.int .i64 l) := L2.cell 1
      have Lc2 : w2.cell? ⟨w.heap.size, 2, none⟩ = some (.int .i64 m) := L2.cell 2
      have Lc3 : w2.cell? ⟨w.heap.size, 3, none⟩ = some (.slice A ps.length c) := L2.cell 3
      have Lc4 : w2.cell? ⟨w.heap.size, 4, none⟩ = some (.int .i64 b) := L2.cell 4
      have Lc5 : w2.cell? ⟨w.heap.size, 5, none⟩ = some (.int .i64 t) := L2.cell 5
      go_wp2_with fail
      refine (laws_toIntS A2 c2 xs _ (hr2.keep B2.size B2) hm).mono ?_; rintro e w3 ⟨h0, rfl, hI, hb⟩
      have s3 : w2.heap.size ≤ w3.heap.size := Below.size hb
      have B3 := below_next (Nat.le_refl _) B2 hb
      have L3 := L2.below hb L2.lt
      have Q0_3 := Q0_2.below hb
      clear B2 L2 Q0_2 Lc0 Lc1 Lc2 Lc3 Lc4 Lc5 hb
      have I0_3 := OwnV.ints hI
      clear hI
      have Lc0 : w3.cell? ⟨w.heap.size, 0, none⟩ = some (.int .i64 o) := L3.cell 0
      have Lc1 : w3.cell? ⟨w.heap.size, 1, none⟩ = some (.int .i64 l) := L3.cell 1
      have Lc2 : w3.cell? ⟨w.heap.size, 2, none⟩ = some (.int .i64 m) := L3.cell 2
      have Lc3 : w3.cell? ⟨w.heap.size, 3, none⟩ = some (.slice A ps.length c) := L3.cell 3
      have Lc4 : w3.cell? ⟨w.heap.size, 4, none⟩ = some (.int .i64 b) := L3.cell 4
      have Lc5 : w3.cell? ⟨w.heap.size, 5, none⟩ = some (.int .i64 t) := L3.cell 5
      go_wp2_with fail
      refine ((unhide CS) _ _ _ (Q0_3.pr (Nat.le_refl _)) (I0_3.ir (Nat.le_refl _))).mono ?_; rintro e w4 ⟨rfl, hb⟩
      have s4 : w3.heap.size ≤ w4.heap.size := Below.size hb
      have B4 := below_next (Nat.le_refl _) B3 hb
      have L4 := L3.below hb L3.lt
      have Q0_4 := Q0_3.below hb
      have I0_4 := I0_3.below hb
      clear B3 L3 Q0_3 I0_3 Lc0 Lc1 Lc2 Lc3 Lc4 Lc5 hb
      clear Q0_4 I0_4
      have Lc0 : w4.cell? ⟨w.heap.size, 0, none⟩ = some (.int .i64 o) := L4.cell 0
      have Lc1 : w4.cell? ⟨w.heap.size, 1, none⟩ = some (.int .i64 l) := L4.cell 1
      have Lc2 : w4.cell? ⟨w.heap.size, 2, none⟩ = some (.int .i64 m) := L4.cell 2
      have Lc3 : w4.cell? ⟨w.heap.size, 3, none⟩ = some (.slice A ps.length c) := L4.cell 3
      have Lc4 : w4.cell? ⟨w.heap.size, 4, none⟩ = some (.int .i64 b) := L4.cell 4
      have Lc5 : w4.cell? ⟨w.heap.size, 5, none⟩ = some (.int .i64 t) := L4.cell 5
      go_wp2_with fail
      refine (laws_toKnown o l m A c b t ps _ (hr.keep B4.size B4) hn).mono ?_; rintro e w5 ⟨g1, rfl, hg, hQ, hb⟩
      have s5 : w4.heap.size ≤ w5.heap.size := Below.size hb
      have B5 := below_next (Nat.le_refl _) B4 hb
      have L5 := L4.below hb L4.lt
      clear B4 L4 Lc0 Lc1 Lc2 Lc3 Lc4 Lc5 hb
      have Q1_5 := OwnV.of_blk hQ hg hQ.lt
      clear hQ hg
      have s6 : (w5.alloc (.cells #[.int .i64 o, .int .i64 l, .int .i64 m, .slice (some ⟨g1, 0, none⟩) ps.length ps.length, .int .i64 b, .int .i64 t] 31)).heap.size = w5.heap.size + 1 := World.size_alloc _ _
      have B6 := B5.alloc B5.size (.cells #[.int .i64 o, .int .i64 l, .int .i64 m, .slice (some ⟨g1, 0, none⟩) ps.length ps.length, .int .i64 b, .int .i64 t] 31)
      have L6 := L5.alloc (.cells #[.int .i64 o, .int .i64 l, .int .i64 m, .slice (some ⟨g1, 0, none⟩) ps.length ps.length, .int .i64 b, .int .i64 t] 31)
      have Q1_6 := Q1_5.alloc (.cells #[.int .i64 o, .int .i64 l, .int .i64 m, .slice (some ⟨g1, 0, none⟩) ps.length ps.length, .int .i64 b, .int .i64 t] 31)
      have X6 := Blk.new w5 31 #[.int .i64 o, .int .i64 l, .int .i64 m, .slice (some ⟨g1, 0, none⟩) ps.length ps.length, .int .i64 b, .int .i64 t]
      clear B5 L5 Q1_5
      have Lc0 : (w5.alloc (.cells #[.int .i64 o, .int .i64 l, .int .i64 m, .slice (some ⟨g1, 0, none⟩) ps.length ps.length, .int .i64 b, .int .i64 t] 31)).cell? ⟨w.heap.size, 0, none⟩ = some (.int .i64 o) := L6.cell 0
      have Lc1 : (w5.alloc (.cells #[.int .i64 o, .int .i64 l, .int .i64 m, .slice (some ⟨g1, 0, none⟩) ps.length ps.length, .int .i64 b, .int .i64 t] 31)).cell? ⟨w.heap.size, 1, none⟩ = some (.int .i64 l) := L6.cell 1
      have Lc2 : (w5.alloc (.cells #[.int .i64 o, .int .i64 l, .int .i64 m, .slice (some ⟨g1, 0, none⟩) ps.length ps.length, .int .i64 b, .int .i64 t] 31)).cell? ⟨w.heap.size, 2, none⟩ = some (.int .i64 m) := L6.cell 2
      have Lc3 : (w5.alloc (.cells #[.int .i64 o, .int .i64 l, .int .i64 m, .slice (some ⟨g1, 0, none⟩) ps.length ps.length, .int .i64 b, .int .i64 t] 31)).cell? ⟨w.heap.size, 3, none⟩ = some (.slice A ps.length c) := L6.cell 3
      have Lc4 : (w5.alloc (.cells #[.int .i64 o, .int .i64 l, .int .i64 m, .slice (some ⟨g1, 0, none⟩) ps.length ps.length, .int .i64 b, .int .i64 t] 31)).cell? ⟨w.heap.size, 4, none⟩ = some (.int .i64 b) := L6.cell 4
      have Lc5 : (w5.alloc (.cells #[.int .i64 o, .int .i64 l, .int .i64 m, .slice (some ⟨g1, 0, none⟩) ps.length ps.length, .int .i64 b, .int .i64 t] 31)).cell? ⟨w.heap.size, 5, none⟩ = some (.int .i64 t) := L6.cell 5
      have Xc0 : (w5.alloc (.cells #[.int .i64 o, .int .i64 l, .int .i64 m, .slice (some ⟨g1, 0, none⟩) ps.length ps.length, .int .i64 b, .int .i64 t] 31)).cell? ⟨w5.heap.size, 0, none⟩ = some (.int .i64 o) := X6.cell 0
      have Xc1 : (w5.alloc (.cells #[.int .i64 o, .int .i64 l, .int .i64 m, .slice (some ⟨g1, 0, none⟩) ps.length ps.length, .int .i64 b, .int .i64 t] 31)).cell? ⟨w5.heap.size, 1, none⟩ = some (.int .i64 l) := X6.cell 1
      have Xc2 : (w5.alloc (.cells #[.int .i64 o, .int .i64 l, .int .i64 m, .slice (some ⟨g1, 0, none⟩) ps.length ps.length, .int .i64 b, .int .i64 t] 31)).cell? ⟨w5.heap.size, 2, none⟩ = some (.int .i64 m) := X6.cell 2
      have Xc3 : (w5.alloc (.cells #[.int .i64 o, .int .i64 l, .int .i64 m, .slice (some ⟨g1, 0, none⟩) ps.length ps.length, .int .i64 b, .int .i64 t] 31)).cell? ⟨w5.heap.size, 3, none⟩ = some (.slice (some ⟨g1, 0, none⟩) ps.length ps.length) := X6.cell 3
      have Xc4 : (w5.alloc (.cells #[.int .i64 o, .int .i64 l, .int .i64 m, .slice (some ⟨g1, 0, none⟩) ps.length ps.length, .int .i64 b, .int .i64 t] 31)).cell? ⟨w5.heap.size, 4, none⟩ = some (.int .i64 b) := X6.cell 4
      have Xc5 : (w5.alloc (.cells #[.int .i64 o, .int .i64 l, .int .i64 m, .slice (some ⟨g1, 0, none⟩) ps.length ps.length, .int .i64 b, .int .i64 t] 31)).cell? ⟨w5.heap.size, 5, none⟩ = some (.int .i64 t) := X6.cell 5
      go_wp2_with fail
      refine (laws_toIntS A2 c2 xs _ (hr2.keep B6.size B6) hm).mono ?_; rintro e w6 ⟨h1, rfl, hI, hb⟩
      have s7 : (w5.alloc (.cells #[.int .i64 o, .int .i64 l, .int .i64 m, .slice (some ⟨g1, 0, none⟩) ps.length ps.length, .int .i64 b, .int .i64 t] 31)).heap.size ≤ w6.heap.size := Below.size hb
      have B7 := below_next (Nat.le_refl _) B6 hb
      have L7 := L6.below hb L6.lt
      have X7 := X6.below hb X6.lt
      have Q1_7 := Q1_6.below hb
      clear B6 L6 X6 Q1_6 Lc0 Lc1 Lc2 Lc3 Lc4 Lc5 Xc0 Xc1 Xc2 Xc3 Xc4 Xc5 hb
      have I1_7 := OwnV.ints hI
      clear hI
      have Lc0 : w6.cell? ⟨w.heap.size, 0, none⟩ = some (.int .i64 o) := L7.cell 0
      have Lc1 : w6.cell? ⟨w.heap.size, 1, none⟩ = some (.int .i64 l) := L7.cell 1
      have Lc2 : w6.cell? ⟨w.heap.size, 2, none⟩ = some (.int .i64 m) := L7.cell 2
      have Lc3 : w6.cell? ⟨w.heap.size, 3, none⟩ = some (.slice A ps.length c) := L7.cell 3
      have Lc4 : w6.cell? ⟨w.heap.size, 4, none⟩ = some (.int .i64 b) := L7.cell 4
      have Lc5 : w6.cell? ⟨w.heap.size, 5, none⟩ = some (.int .i64 t) := L7.cell 5
      have Xc0 : w6.cell? ⟨w5.heap.size, 0, none⟩ = some (.int .i64 o) := X7.cell 0
      have Xc1 : w6.cell? ⟨w5.heap.size, 1, none⟩ = some (.int .i64 l) := X7.cell 1
      have Xc2 : w6.cell? ⟨w5.heap.size, 2, none⟩ = some (.int .i64 m) := X7.cell 2
      have Xc3 : w6.cell? ⟨w5.heap.size, 3, none⟩ = some (.slice (some ⟨g1, 0, none⟩) ps.length ps.length) := X7.cell 3
      have Xc4 : w6.cell? ⟨w5.heap.size, 4, none⟩ = some (.int .i64 b) := X7.cell 4
      have Xc5 : w6.cell? ⟨w5.heap.size, 5, none⟩ = some (.int .i64 t) := X7.cell 5
      go_wp2_with fail
      refine ((unhide CI) _ _ _ (Q1_7.pr (Nat.le_refl _)) (I1_7.ir (Nat.le_refl _))).mono ?_; rintro e w7 ⟨rfl, hb⟩
      have s8 : w6.heap.size ≤ w7.heap.size := Below.size hb
      have B8 := below_next (Nat.le_refl _) B7 hb
      have L8 := L7.below hb L7.lt
      have X8 := X7.below hb X7.lt
      have Q1_8 := Q1_7.below hb
      have I1_8 := I1_7.below hb
      clear B7 L7 X7 Q1_7 I1_7 Lc0 Lc1 Lc2 Lc3 Lc4 Lc5 Xc0 Xc1 Xc2 Xc3 Xc4 Xc5 hb
      have Xc0 : w7.cell? ⟨w5.heap.size, 0, none⟩ = some (.int .i64 o) := X8.cell 0
      have Xc1 : w7.cell? ⟨w5.heap.size, 1, none⟩ = some (.int .i64 l) := X8.cell 1
      have Xc2 : w7.cell? ⟨w5.heap.size, 2, none⟩ = some (.int .i64 m) := X8.cell 2
      have Xc3 : w7.cell? ⟨w5.heap.size, 3, none⟩ = some (.slice (some ⟨g1, 0, none⟩) ps.length ps.length) := X8.cell 3
      have Xc4 : w7.cell? ⟨w5.heap.size, 4, none⟩ = some (.int .i64 b) := X8.cell 4
      have Xc5 : w7.cell? ⟨w5.heap.size, 5, none⟩ = some (.int .i64 t) := X8.cell 5
      have Lc0 : w7.cell? ⟨w.heap.size, 0, none⟩ = some (.int .i64 o) := L8.cell 0
      have Lc1 : w7.cell? ⟨w.heap.size, 1, none⟩ = some (.int .i64 l) := L8.cell 1
      have Lc2 : w7.cell? ⟨w.heap.size, 2, none⟩ = some (.int .i64 m) := L8.cell 2
      have Lc3 : w7.cell? ⟨w.heap.size, 3, none⟩ = some (.slice A ps.length c) := L8.cell 3
      have Lc4 : w7.cell? ⟨w.heap.size, 4, none⟩ = some (.int .i64 b) := L8.cell 4
      have Lc5 : w7.cell? ⟨w.heap.size, 5, none⟩ = some (.int .i64 t) := L8.cell 5
      go_wp2_with fail
      have s0 : Below w7.heap.size w7 w7.drew ∧ w7.drew.cell? ⟨w5.heap.size, 0, none⟩ = some (.int .i64 o) ∧ w7.drew.cell? ⟨w5.heap.size, 1, none⟩ = some (.int .i64 l) ∧ w7.drew.cell? ⟨w5.heap.size, 2, none⟩ = some (.int .i64 m) ∧ w7.drew.cell? ⟨w5.heap.size, 3, none⟩ = some (.slice (some ⟨g1, 0, none⟩) ps.length ps.length) ∧ w7.drew.cell? ⟨w5.heap.size, 4, none⟩ = some (.int .i64 b) ∧ w7.drew.cell? ⟨w5.heap.size, 5, none⟩ = some (.int .i64 t) ∧ w7.drew.cell? ⟨w.heap.size, 0, none⟩ = some (.int .i64 o) ∧ w7.drew.cell? ⟨w.heap.size, 1, none⟩ = some (.int .i64 l) ∧ w7.drew.cell? ⟨w.heap.size, 2, none⟩ = some (.int .i64 m) ∧ w7.drew.cell? ⟨w.heap.size, 3, none⟩ = some (.slice A ps.length c) ∧ w7.drew.cell? ⟨w.heap.size, 4, none⟩ = some (.int .i64 b) ∧ w7.drew.cell? ⟨w.heap.size, 5, none⟩ = some (.int .i64 t) := ⟨(Below.refl _ _).drew, X8.cell 0, X8.cell 1, X8.cell 2, X8.cell 3, X8.cell 4, X8.cell 5, L8.cell 0, L8.cell 1, L8.cell 2, L8.cell 3, L8.cell 4, L8.cell 5⟩
      clear Xc0 Xc1 Xc2 Xc3 Xc4 Xc5 Lc0 Lc1 Lc2 Lc3 Lc4 Lc5
      refine wp_region_held_drew (S := (fun W => Below w7.heap.size w7 W ∧ W.cell? ⟨w5.heap.size, 0, none⟩ = some (.int .i64 o) ∧ W.cell? ⟨w5.heap.size, 1, none⟩ = some (.int .i64 l) ∧ W.cell? ⟨w5.heap.size, 2, none⟩ = some (.int .i64 m) ∧ W.cell? ⟨w5.heap.size, 3, none⟩ = some (.slice (some ⟨g1, 0, none⟩) ps.length ps.length) ∧ W.cell? ⟨w5.heap.size, 4, none⟩ = some (.int .i64 b) ∧ W.cell? ⟨w5.heap.size, 5, none⟩ = some (.int .i64 t) ∧ W.cell? ⟨w.heap.size, 0, none⟩ = some (.int .i64 o) ∧ W.cell? ⟨w.heap.size, 1, none⟩ = some (.int .i64 l) ∧ W.cell? ⟨w.heap.size, 2, none⟩ = some (.int .i64 m) ∧ W.cell? ⟨w.heap.size, 3, none⟩ = some (.slice A ps.length c) ∧ W.cell? ⟨w.heap.size, 4, none⟩ = some (.int .i64 b) ∧ W.cell? ⟨w.heap.size, 5, none⟩ = some (.int .i64 t))) (by kernel_rfl) (by first | assumption | exact s0 | exact keep12 (by assumption) (by assumption)) (fun hHeld => ?_)
      refine wpAnyH_take (i := 0) (oi := { dst := some 46, op := Op.load 31 (Operand.tmp 8), type := 31, pos := "exact.go:1621", after := #[], guard := none }) (v := ?_) rfl (by kernel_rfl) (by kernel_rfl) (by kernel_rfl) (fun _ _ _ h => h) (Or.inl ⟨by rfl, ?_⟩) (by assumption) ?_; rotate_left
      · intro W hW; (try dsimp only at hW); go_simp;  try (with_reducible rfl)
      try simp only [Act.put, List.setIfInBounds_toArray, List.set_cons_zero, List.set_cons_succ]
      refine wpAnyH_take (i := 1) (oi := { dst := some 47, op := Op.load 26 (Operand.tmp 2), type := 26, pos := "exact.go:1621", after := #[], guard := none }) (v := ?_) rfl (by kernel_rfl) (by kernel_rfl) (by kernel_rfl) (fun _ _ _ h => h) (Or.inl ⟨by rfl, ?_⟩) (by assumption) ?_; rotate_left
      · intro W hW; (try dsimp only at hW); go_simp;  try (with_reducible rfl)
      try simp only [Act.put, List.setIfInBounds_toArray, List.set_cons_zero, List.set_cons_succ]
      refine wpAnyH_ready (rs := [2]) (by kernel_rfl) (by simp) (AllReadyH.cons (i := 2) (o := { dst := some 48, op := Op.call { callee := Callee.value (Operand.func 16), args := #[Operand.tmp 47], argTypes := #[26] }, type := 31, pos := "exact.go:1621", after := #[{ on := 1, ground := Ground.data }], guard := none }) rfl (fun K hK => ?_) AllReadyH.nil)
      go_simp
      refine (laws_toKnown o l m A c b t ps _ (hr.keep (Nat.le_trans B8.size hHeld.1.size) (below_next (Nat.le_refl _) B8 hHeld.1)) hn).mono ?_; rintro e w' ⟨g8, rfl, hg8, hQ8, hb⟩
      try go_wp2_with fail
      refine hK.out _ _ (by (try dsimp only); first | assumption | exact s0 | exact keep12 (by assumption) (by assumption)) (fun hHeld => ?_)
      clear hK K
      try simp only [Act.put, List.setIfInBounds_toArray, List.set_cons_zero, List.set_cons_succ]
      refine wpAnyH_ready (rs := [3]) (by kernel_rfl) (by simp) (AllReadyH.cons (i := 3) (o := { dst := some 49, op := Op.call { callee := Callee.value (Operand.func 18), args := #[Operand.tmp 46, Operand.tmp 48], argTypes := #[31, 31] }, type := 4, pos := "exact.go:1621", after := #[{ on := 0, ground := Ground.data }, { on := 2, ground := Ground.data }, { on := 2, ground := Ground.chain }], guard := none }) rfl (fun K hK => ?_) AllReadyH.nil)
      go_simp
      have XQ := Q1_8.below hHeld.1
      refine (laws_eqKnown o l m (some ⟨g1, 0, none⟩) (some ⟨g8, 0, none⟩) ps.length ps.length b t ps _ (XQ.pr (Nat.le_refl _)) (PR.of_blk hQ8 hQ8.lt) hn).mono ?_; rintro e wq ⟨rfl, hb⟩
      try go_wp2_with fail
      refine hK.out _ _ (by (try dsimp only); first | assumption | exact s0 | exact keep12 (by assumption) (by assumption)) (fun hHeld => ?_)
      clear hK K
      try simp only [Act.put, List.setIfInBounds_toArray, List.set_cons_zero, List.set_cons_succ]
      refine wpAnyH_take (i := 4) (oi := { dst := some 50, op := Op.unOp UnOp.not 4 (Operand.tmp 49), type := 4, pos := "exact.go:1621", after := #[{ on := 3, ground := Ground.data }], guard := none }) (v := ?_) rfl (by kernel_rfl) (by kernel_rfl) (by kernel_rfl) (fun _ _ _ h => h) (Or.inl ⟨by rfl, ?_⟩) (by assumption) ?_; rotate_left
      · intro W hW; (try dsimp only at hW); go_simp;  try (with_reducible rfl)
      try simp only [Act.put, List.setIfInBounds_toArray, List.set_cons_zero, List.set_cons_succ]
      refine wpAnyH_done (by kernel_rfl) ?_ _
      have hE := hHeld.1
      clear hHeld s0
      have s9 : w7.heap.size ≤ wq.heap.size := Below.size hE
      have B9 := below_next (Nat.le_refl _) B8 hE
      have L9 := L8.below hE L8.lt
      have X9 := X8.below hE X8.lt
      have Q1_9 := Q1_8.below hE
      have I1_9 := I1_8.below hE
      clear B8 L8 X8 Q1_8 I1_8 hE
      have Lc0 : wq.cell? ⟨w.heap.size, 0, none⟩ = some (.int .i64 o) := L9.cell 0
      have Lc1 : wq.cell? ⟨w.heap.size, 1, none⟩ = some (.int .i64 l) := L9.cell 1
      have Lc2 : wq.cell? ⟨w.heap.size, 2, none⟩ = some (.int .i64 m) := L9.cell 2
      have Lc3 : wq.cell? ⟨w.heap.size, 3, none⟩ = some (.slice A ps.length c) := L9.cell 3
      have Lc4 : wq.cell? ⟨w.heap.size, 4, none⟩ = some (.int .i64 b) := L9.cell 4
      have Lc5 : wq.cell? ⟨w.heap.size, 5, none⟩ = some (.int .i64 t) := L9.cell 5
      have Xc0 : wq.cell? ⟨w5.heap.size, 0, none⟩ = some (.int .i64 o) := X9.cell 0
      have Xc1 : wq.cell? ⟨w5.heap.size, 1, none⟩ = some (.int .i64 l) := X9.cell 1
      have Xc2 : wq.cell? ⟨w5.heap.size, 2, none⟩ = some (.int .i64 m) := X9.cell 2
      have Xc3 : wq.cell? ⟨w5.heap.size, 3, none⟩ = some (.slice (some ⟨g1, 0, none⟩) ps.length ps.length) := X9.cell 3
      have Xc4 : wq.cell? ⟨w5.heap.size, 4, none⟩ = some (.int .i64 b) := X9.cell 4
      have Xc5 : wq.cell? ⟨w5.heap.size, 5, none⟩ = some (.int .i64 t) := X9.cell 5
      go_wp2_with fail
      refine (laws_toIntS A2 c2 xs _ (hr2.keep B9.size B9) hm).mono ?_; rintro e w8 ⟨h9, rfl, hI, hb⟩
      have s10 : wq.heap.size ≤ w8.heap.size := Below.size hb
      have B10 := below_next (Nat.le_refl _) B9 hb
      have L10 := L9.below hb L9.lt
      have X10 := X9.below hb X9.lt
      have Q1_10 := Q1_9.below hb
      have I1_10 := I1_9.below hb
      clear B9 L9 X9 Q1_9 I1_9 Lc0 Lc1 Lc2 Lc3 Lc4 Lc5 Xc0 Xc1 Xc2 Xc3 Xc4 Xc5 hb
      have Lc0 : w8.cell? ⟨w.heap.size, 0, none⟩ = some (.int .i64 o) := L10.cell 0
      have Lc1 : w8.cell? ⟨w.heap.size, 1, none⟩ = some (.int .i64 l) := L10.cell 1
      have Lc2 : w8.cell? ⟨w.heap.size, 2, none⟩ = some (.int .i64 m) := L10.cell 2
      have Lc3 : w8.cell? ⟨w.heap.size, 3, none⟩ = some (.slice A ps.length c) := L10.cell 3
      have Lc4 : w8.cell? ⟨w.heap.size, 4, none⟩ = some (.int .i64 b) := L10.cell 4
      have Lc5 : w8.cell? ⟨w.heap.size, 5, none⟩ = some (.int .i64 t) := L10.cell 5
      have Xc0 : w8.cell? ⟨w5.heap.size, 0, none⟩ = some (.int .i64 o) := X10.cell 0
      have Xc1 : w8.cell? ⟨w5.heap.size, 1, none⟩ = some (.int .i64 l) := X10.cell 1
      have Xc2 : w8.cell? ⟨w5.heap.size, 2, none⟩ = some (.int .i64 m) := X10.cell 2
      have Xc3 : w8.cell? ⟨w5.heap.size, 3, none⟩ = some (.slice (some ⟨g1, 0, none⟩) ps.length ps.length) := X10.cell 3
      have Xc4 : w8.cell? ⟨w5.heap.size, 4, none⟩ = some (.int .i64 b) := X10.cell 4
      have Xc5 : w8.cell? ⟨w5.heap.size, 5, none⟩ = some (.int .i64 t) := X10.cell 5
      go_wp2_with fail
      refine (laws_eqIntS (some ⟨h1, 0, none⟩) (some ⟨h9, 0, none⟩) xs.length xs.length xs _ (I1_10.ir (Nat.le_refl _)) ((OwnI.ir hI) (Nat.le_refl _)) (by omega)).mono ?_; rintro e w9 ⟨rfl, hb⟩
      have s11 : w8.heap.size ≤ w9.heap.size := Below.size hb
      have B11 := below_next (Nat.le_refl _) B10 hb
      have L11 := L10.below hb L10.lt
      have X11 := X10.below hb X10.lt
      have Q1_11 := Q1_10.below hb
      have I1_11 := I1_10.below hb
      clear B10 L10 X10 Q1_10 I1_10 Lc0 Lc1 Lc2 Lc3 Lc4 Lc5 Xc0 Xc1 Xc2 Xc3 Xc4 Xc5 hb hI
      go_wp2_with fail
      go_ret
      exact ⟨rfl, B11⟩
    · have CZ := hide (fun wx => by have := laws_szKnown o l m A ps.length c b t wx (by omega); rwa [if_neg hn] at this)
      have n3 : ¬ (1048576 : Int) < (xs.length : Int) := by omega
      go_enter Try.func5, Try.ntmps5
      go_wp2_with fail
      refine ((unhide CZ) _).mono ?_; rintro e w1 ⟨rfl, hb1⟩
      go_wp2_with fail
      go_ret
      exact ⟨rfl, below_next (Nat.le_refl _) B0 hb1⟩
  · have n3 : (1048576 : Int) < (xs.length : Int) := by omega
    go_enter Try.func5, Try.ntmps5
    go_wp2_with fail
    go_ret
    exact ⟨rfl, B0⟩

end Go.Proofs.Ytegfcpdkehgdpaa

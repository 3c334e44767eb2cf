/- The walk of FnAfterWord. Conditions: a slice of bytes. -/
import Derived.Test.YtegfcpdkehgdpaaAwp
namespace Go.Proofs.Ytegfcpdkehgdpaa
open Go.RowKit

set_option maxRecDepth 100000 in
set_option maxHeartbeats 6000000 in
theorem law_FnAfterWord (A : Option Addr) (n c : Nat) (w : World) (h : Src w w.heap.size A n) (hc : n ≤ c) (hcm : c ≤ maxLen) :
    Calls Try.prog 13 #[.slice A n c] w fun e w' => e = .returned (.bool true) ∧ Below w.heap.size w w' := by
  by_cases hn : n ≤ 1048576
  · have HD := hide (draw_After A n c w h hn hc hcm)
    have B0 : Below w.heap.size w w := Below.refl _ _
    clear h
    go_enter Try.func13, Try.ntmps13
    go_wp2_with fail
    refine ((unhide HD)).mono ?_; rintro e w1 ⟨o, l, m, A2, c2, b, t, ps, x, rfl, hl, hcp, P0, hb⟩
    have s1 : w.heap.size ≤ w1.heap.size := Below.size hb
    have B1 := below_next (Nat.le_refl _) B0 hb
    clear B0 hb
    clear HD
    have P1 := OwnV.pairs P0
    clear P0
    have s2 : (w1.alloc (.cells #[.int .i64 o, .int .i64 l, .int .i64 m, .slice A2 ps.length c2, .int .i64 b, .int .i64 t] 31)).heap.size = w1.heap.size + 1 := World.size_alloc _ _
    have B2 := B1.alloc B1.size (.cells #[.int .i64 o, .int .i64 l, .int .i64 m, .slice A2 ps.length c2, .int .i64 b, .int .i64 t] 31)
    have P2 := P1.alloc (.cells #[.int .i64 o, .int .i64 l, .int .i64 m, .slice A2 ps.length c2, .int .i64 b, .int .i64 t] 31)
    have Kb2 := Blk.new w1 31 #[.int .i64 o, .int .i64 l, .int .i64 m, .slice A2 ps.length c2, .int .i64 b, .int .i64 t]
    clear B1 P1
    cases ha : Sx.aftOK o l m ps b t x
    · skip
      obtain ⟨CS, CI⟩ := after_none (by omega) ha
      have CS := hide CS
      have CI := hide CI
      clear ha
      have Kbc0 : (w1.alloc (.cells #[.int .i64 o, .int .i64 l, .int .i64 m, .slice A2 ps.length c2, .int .i64 b, .int .i64 t] 31)).cell? ⟨w1.heap.size, 0, none⟩ = some (.int .i64 o) := Kb2.cell 0
      have Kbc1 : (w1.alloc (.cells #[.int .i64 o, .int .i64 l, .int .i64 m, .slice A2 ps.length c2, .int .i64 b, .int .i64 t] 31)).cell? ⟨w1.heap.size, 1, none⟩ = some (.int .i64 l) := Kb2.cell 1
      have Kbc2 : (w1.alloc (.cells #[.int .i64 o, .int .i64 l, .int .i64 m, .slice A2 ps.length c2, .int .i64 b, .int .i64 t] 31)).cell? ⟨w1.heap.size, 2, none⟩ = some (.int .i64 m) := Kb2.cell 2
      have Kbc3 : (w1.alloc (.cells #[.int .i64 o, .int .i64 l, .int .i64 m, .slice A2 ps.length c2, .int .i64 b, .int .i64 t] 31)).cell? ⟨w1.heap.size, 3, none⟩ = some (.slice A2 ps.length c2) := Kb2.cell 3
      have Kbc4 : (w1.alloc (.cells #[.int .i64 o, .int .i64 l, .int .i64 m, .slice A2 ps.length c2, .int .i64 b, .int .i64 t] 31)).cell? ⟨w1.heap.size, 4, none⟩ = some (.int .i64 b) := Kb2.cell 4
      have Kbc5 : (w1.alloc (.cells #[.int .i64 o, .int .i64 l, .int .i64 m, .slice A2 ps.length c2, .int .i64 b, .int .i64 t] 31)).cell? ⟨w1.heap.size, 5, none⟩ = some (.int .i64 t) := Kb2.cell 5
      go_wp2_with fail
      refine ((unhide CI) _ _ _ (P2.pr (Nat.le_refl _)) hcp).mono ?_; rintro e w2 ⟨A3, c3, rfl, hb⟩
      have s3 : (w1.alloc (.cells #[.int .i64 o, .int .i64 l, .int .i64 m, .slice A2 ps.length c2, .int .i64 b, .int .i64 t] 31)).heap.size ≤ w2.heap.size := Below.size hb
      have B3 := below_next (Nat.le_refl _) B2 hb
      have Kb3 := Kb2.below hb Kb2.lt
      have P3 := P2.below hb
      clear B2 Kb2 P2 Kbc0 Kbc1 Kbc2 Kbc3 Kbc4 Kbc5 hb
      have s4 : (w2.alloc (.cells #[.int .i64 0, .int .i64 0, .int .i64 0, .slice A3 0 c3, .int .i64 0, .int .i64 0] 31)).heap.size = w2.heap.size + 1 := World.size_alloc _ _
      have B4 := B3.alloc B3.size (.cells #[.int .i64 0, .int .i64 0, .int .i64 0, .slice A3 0 c3, .int .i64 0, .int .i64 0] 31)
      have Kb4 := Kb3.alloc (.cells #[.int .i64 0, .int .i64 0, .int .i64 0, .slice A3 0 c3, .int .i64 0, .int .i64 0] 31)
      have P4 := P3.alloc (.cells #[.int .i64 0, .int .i64 0, .int .i64 0, .slice A3 0 c3, .int .i64 0, .int .i64 0] 31)
      have Xb4 := Blk.new w2 31 #[.int .i64 0, .int .i64 0, .int .i64 0, .slice A3 0 c3, .int .i64 0, .int .i64 0]
      clear B3 Kb3 P3
      have Kbc0 : (w2.alloc (.cells #[.int .i64 0, .int .i64 0, .int .i64 0, .slice A3 0 c3, .int .i64 0, .int .i64 0] 31)).cell? ⟨w1.heap.size, 0, none⟩ = some (.int .i64 o) := Kb4.cell 0
      have Kbc1 : (w2.alloc (.cells #[.int .i64 0, .int .i64 0, .int .i64 0, .slice A3 0 c3, .int .i64 0, .int .i64 0] 31)).cell? ⟨w1.heap.size, 1, none⟩ = some (.int .i64 l) := Kb4.cell 1
      have Kbc2 : (w2.alloc (.cells #[.int .i64 0, .int .i64 0, .int .i64 0, .slice A3 0 c3, .int .i64 0, .int .i64 0] 31)).cell? ⟨w1.heap.size, 2, none⟩ = some (.int .i64 m) := Kb4.cell 2
      have Kbc3 : (w2.alloc (.cells #[.int .i64 0, .int .i64 0, .int .i64 0, .slice A3 0 c3, .int .i64 0, .int .i64 0] 31)).cell? ⟨w1.heap.size, 3, none⟩ = some (.slice A2 ps.length c2) := Kb4.cell 3
      have Kbc4 : (w2.alloc (.cells #[.int .i64 0, .int .i64 0, .int .i64 0, .slice A3 0 c3, .int .i64 0, .int .i64 0] 31)).cell? ⟨w1.heap.size, 4, none⟩ = some (.int .i64 b) := Kb4.cell 4
      have Kbc5 : (w2.alloc (.cells #[.int .i64 0, .int .i64 0, .int .i64 0, .slice A3 0 c3, .int .i64 0, .int .i64 0] 31)).cell? ⟨w1.heap.size, 5, none⟩ = some (.int .i64 t) := Kb4.cell 5
      go_wp2_with fail
      refine ((unhide CS) _ _ _ (P4.pr (Nat.le_refl _)) hcp).mono ?_; rintro e w3 ⟨A4, c4, rfl, hb⟩
      have s5 : (w2.alloc (.cells #[.int .i64 0, .int .i64 0, .int .i64 0, .slice A3 0 c3, .int .i64 0, .int .i64 0] 31)).heap.size ≤ w3.heap.size := Below.size hb
      have B5 := below_next (Nat.le_refl _) B4 hb
      have Kb5 := Kb4.below hb Kb4.lt
      have Xb5 := Xb4.below hb Xb4.lt
      have P5 := P4.below hb
      clear B4 Kb4 Xb4 P4 Kbc0 Kbc1 Kbc2 Kbc3 Kbc4 Kbc5 hb
      have s6 : (w3.alloc (.cells #[.int .i64 0, .int .i64 0, .int .i64 0, .slice A4 0 c4, .int .i64 0, .int .i64 0] 31)).heap.size = w3.heap.size + 1 := World.size_alloc _ _
      have B6 := B5.alloc B5.size (.cells #[.int .i64 0, .int .i64 0, .int .i64 0, .slice A4 0 c4, .int .i64 0, .int .i64 0] 31)
      have Kb6 := Kb5.alloc (.cells #[.int .i64 0, .int .i64 0, .int .i64 0, .slice A4 0 c4, .int .i64 0, .int .i64 0] 31)
      have Xb6 := Xb5.alloc (.cells #[.int .i64 0, .int .i64 0, .int .i64 0, .slice A4 0 c4, .int .i64 0, .int .i64 0] 31)
      have P6 := P5.alloc (.cells #[.int .i64 0, .int .i64 0, .int .i64 0, .slice A4 0 c4, .int .i64 0, .int .i64 0] 31)
      have Wb6 := Blk.new w3 31 #[.int .i64 0, .int .i64 0, .int .i64 0, .slice A4 0 c4, .int .i64 0, .int .i64 0]
      clear B5 Kb5 Xb5 P5
      have Xbc0 : (w3.alloc (.cells #[.int .i64 0, .int .i64 0, .int .i64 0, .slice A4 0 c4, .int .i64 0, .int .i64 0] 31)).cell? ⟨w2.heap.size, 0, none⟩ = some (.int .i64 0) := Xb6.cell 0
      have Xbc1 : (w3.alloc (.cells #[.int .i64 0, .int .i64 0, .int .i64 0, .slice A4 0 c4, .int .i64 0, .int .i64 0] 31)).cell? ⟨w2.heap.size, 1, none⟩ = some (.int .i64 0) := Xb6.cell 1
      have Xbc2 : (w3.alloc (.cells #[.int .i64 0, .int .i64 0, .int .i64 0, .slice A4 0 c4, .int .i64 0, .int .i64 0] 31)).cell? ⟨w2.heap.size, 2, none⟩ = some (.int .i64 0) := Xb6.cell 2
      have Xbc3 : (w3.alloc (.cells #[.int .i64 0, .int .i64 0, .int .i64 0, .slice A4 0 c4, .int .i64 0, .int .i64 0] 31)).cell? ⟨w2.heap.size, 3, none⟩ = some (.slice A3 0 c3) := Xb6.cell 3
      have Xbc4 : (w3.alloc (.cells #[.int .i64 0, .int .i64 0, .int .i64 0, .slice A4 0 c4, .int .i64 0, .int .i64 0] 31)).cell? ⟨w2.heap.size, 4, none⟩ = some (.int .i64 0) := Xb6.cell 4
      have Xbc5 : (w3.alloc (.cells #[.int .i64 0, .int .i64 0, .int .i64 0, .slice A4 0 c4, .int .i64 0, .int .i64 0] 31)).cell? ⟨w2.heap.size, 5, none⟩ = some (.int .i64 0) := Xb6.cell 5
      have Wbc0 : (w3.alloc (.cells #[.int .i64 0, .int .i64 0, .int .i64 0, .slice A4 0 c4, .int .i64 0, .int .i64 0] 31)).cell? ⟨w3.heap.size, 0, none⟩ = some (.int .i64 0) := Wb6.cell 0
      have Wbc1 : (w3.alloc (.cells #[.int .i64 0, .int .i64 0, .int .i64 0, .slice A4 0 c4, .int .i64 0, .int .i64 0] 31)).cell? ⟨w3.heap.size, 1, none⟩ = some (.int .i64 0) := Wb6.cell 1
      have Wbc2 : (w3.alloc (.cells #[.int .i64 0, .int .i64 0, .int .i64 0, .slice A4 0 c4, .int .i64 0, .int .i64 0] 31)).cell? ⟨w3.heap.size, 2, none⟩ = some (.int .i64 0) := Wb6.cell 2
      have Wbc3 : (w3.alloc (.cells #[.int .i64 0, .int .i64 0, .int .i64 0, .slice A4 0 c4, .int .i64 0, .int .i64 0] 31)).cell? ⟨w3.heap.size, 3, none⟩ = some (.slice A4 0 c4) := Wb6.cell 3
      have Wbc4 : (w3.alloc (.cells #[.int .i64 0, .int .i64 0, .int .i64 0, .slice A4 0 c4, .int .i64 0, .int .i64 0] 31)).cell? ⟨w3.heap.size, 4, none⟩ = some (.int .i64 0) := Wb6.cell 4
      have Wbc5 : (w3.alloc (.cells #[.int .i64 0, .int .i64 0, .int .i64 0, .slice A4 0 c4, .int .i64 0, .int .i64 0] 31)).cell? ⟨w3.heap.size, 5, none⟩ = some (.int .i64 0) := Wb6.cell 5
      go_wp2_with fail
      refine (so00 A3 A4 c3 c4 _).mono ?_; rintro e w4 ⟨rfl, hb⟩
      have s7 : (w3.alloc (.cells #[.int .i64 0, .int .i64 0, .int .i64 0, .slice A4 0 c4, .int .i64 0, .int .i64 0] 31)).heap.size ≤ w4.heap.size := Below.size hb
      have B7 := below_next (Nat.le_refl _) B6 hb
      have Kb7 := Kb6.below hb Kb6.lt
      have Xb7 := Xb6.below hb Xb6.lt
      have Wb7 := Wb6.below hb Wb6.lt
      have P7 := P6.below hb
      clear B6 Kb6 Xb6 Wb6 P6 Xbc0 Xbc1 Xbc2 Xbc3 Xbc4 Xbc5 Wbc0 Wbc1 Wbc2 Wbc3 Wbc4 Wbc5 hb
      have Xbc0 : w4.cell? ⟨w2.heap.size, 0, none⟩ = some (.int .i64 0) := Xb7.cell 0
      have Xbc1 : w4.cell? ⟨w2.heap.size, 1, none⟩ = some (.int .i64 0) := Xb7.cell 1
      have Xbc2 : w4.cell? ⟨w2.heap.size, 2, none⟩ = some (.int .i64 0) := Xb7.cell 2
      have Xbc3 : w4.cell? ⟨w2.heap.size, 3, none⟩ = some (.slice A3 0 c3) := Xb7.cell 3
      have Xbc4 : w4.cell? ⟨w2.heap.size, 4, none⟩ = some (.int .i64 0) := Xb7.cell 4
      have Xbc5 : w4.cell? ⟨w2.heap.size, 5, none⟩ = some (.int .i64 0) := Xb7.cell 5
      have Wbc0 : w4.cell? ⟨w3.heap.size, 0, none⟩ = some (.int .i64 0) := Wb7.cell 0
      have Wbc1 : w4.cell? ⟨w3.heap.size, 1, none⟩ = some (.int .i64 0) := Wb7.cell 1
      have Wbc2 : w4.cell? ⟨w3.heap.size, 2, none⟩ = some (.int .i64 0) := Wb7.cell 2
      have Wbc3 : w4.cell? ⟨w3.heap.size, 3, none⟩ = some (.slice A4 0 c4) := Wb7.cell 3
      have Wbc4 : w4.cell? ⟨w3.heap.size, 4, none⟩ = some (.int .i64 0) := Wb7.cell 4
      have Wbc5 : w4.cell? ⟨w3.heap.size, 5, none⟩ = some (.int .i64 0) := Wb7.cell 5
      go_wp2_with fail
      refine (so00 A3 A4 c3 c4 _).mono ?_; rintro e w5 ⟨rfl, hb⟩
      have s8 : w4.heap.size ≤ w5.heap.size := Below.size hb
      have B8 := below_next (Nat.le_refl _) B7 hb
      have Kb8 := Kb7.below hb Kb7.lt
      have Xb8 := Xb7.below hb Xb7.lt
      have Wb8 := Wb7.below hb Wb7.lt
      have P8 := P7.below hb
      clear B7 Kb7 Xb7 Wb7 P7 Xbc0 Xbc1 Xbc2 Xbc3 Xbc4 Xbc5 Wbc0 Wbc1 Wbc2 Wbc3 Wbc4 Wbc5 hb
      go_wp2_with fail
      go_ret
      exact ⟨rfl, B8⟩
    · skip
      obtain ⟨CS, CI⟩ := after_some (by omega) ha
      rw [Sx.aft_go, Bool.and_eq_true] at ha
      obtain ⟨hk, hgo⟩ := ha
      have hl2 := Sx.step_len l m ps b t x
      obtain ⟨n0, n1, n2, n3, n4, n5⟩ := Sx.kOK_nums hk
      have hok := (Sx.kOK_of hk).1
      have CG := fun (wx : World) (hp : PR wx wx.heap.size A2 ps) => impl_Grows o l m A2 c2 b t ps wx hp (by omega)
      rw [hk, Bool.true_and] at CG
      have CC := hide (fun wx => by have := impl_ClearCode o l m wx; rwa [Sx.clear_yes hok] at this)
      cases hg : Sx.growsB l m ps.length t
      · skip
        rw [hg] at CG
        have CG := hide CG
        unfold AftY at CS CI
        obtain ⟨Qs, hQs⟩ : ∃ P, P = Sx.stepP l m ps b t x := ⟨_, rfl⟩
        obtain ⟨t2, hT2⟩ : ∃ t2, t2 = Sx.advT l x := ⟨_, rfl⟩
        rw [← hQs, ← hT2] at CS CI
        rw [← hQs] at hl2
        have hl2 : Qs.length ≤ 1048576 := by omega
        have CS := hide CS
        have CI := hide CI
        clear hk hgo hg hQs hT2 hok
        have Kbc0 : (w1.alloc (.cells #[.int .i64 o, .int .i64 l, .int .i64 m, .slice A2 ps.length c2, .int .i64 b, .int .i64 t] 31)).cell? ⟨w1.heap.size, 0, none⟩ = some (.int .i64 o) := Kb2.cell 0
        have Kbc1 : (w1.alloc (.cells #[.int .i64 o, .int .i64 l, .int .i64 m, .slice A2 ps.length c2, .int .i64 b, .int .i64 t] 31)).cell? ⟨w1.heap.size, 1, none⟩ = some (.int .i64 l) := Kb2.cell 1
        have Kbc2 : (w1.alloc (.cells #[.int .i64 o, .int .i64 l, .int .i64 m, .slice A2 ps.length c2, .int .i64 b, .int .i64 t] 31)).cell? ⟨w1.heap.size, 2, none⟩ = some (.int .i64 m) := Kb2.cell 2
        have Kbc3 : (w1.alloc (.cells #[.int .i64 o, .int .i64 l, .int .i64 m, .slice A2 ps.length c2, .int .i64 b, .int .i64 t] 31)).cell? ⟨w1.heap.size, 3, none⟩ = some (.slice A2 ps.length c2) := Kb2.cell 3
        have Kbc4 : (w1.alloc (.cells #[.int .i64 o, .int .i64 l, .int .i64 m, .slice A2 ps.length c2, .int .i64 b, .int .i64 t] 31)).cell? ⟨w1.heap.size, 4, none⟩ = some (.int .i64 b) := Kb2.cell 4
        have Kbc5 : (w1.alloc (.cells #[.int .i64 o, .int .i64 l, .int .i64 m, .slice A2 ps.length c2, .int .i64 b, .int .i64 t] 31)).cell? ⟨w1.heap.size, 5, none⟩ = some (.int .i64 t) := Kb2.cell 5
        go_wp2_with fail
        refine ((unhide CI) _ _ _ (P2.pr (Nat.le_refl _)) hcp).mono ?_; rintro e w2 ⟨A3, c3, rfl, O3, hb⟩
        have s3 : (w1.alloc (.cells #[.int .i64 o, .int .i64 l, .int .i64 m, .slice A2 ps.length c2, .int .i64 b, .int .i64 t] 31)).heap.size ≤ w2.heap.size := Below.size hb
        have B3 := below_next (Nat.le_refl _) B2 hb
        have Kb3 := Kb2.below hb Kb2.lt
        have P3 := P2.below hb
        clear B2 Kb2 P2 Kbc0 Kbc1 Kbc2 Kbc3 Kbc4 Kbc5 hb
        have X_3 := OwnV.pairs O3
        clear O3
        have s4 : (w2.alloc (.cells #[.int .i64 o, .int .i64 l, .int .i64 m, .slice A3 Qs.length c3, .int .i64 b, .int .i64 t2] 31)).heap.size = w2.heap.size + 1 := World.size_alloc _ _
        have B4 := B3.alloc B3.size (.cells #[.int .i64 o, .int .i64 l, .int .i64 m, .slice A3 Qs.length c3, .int .i64 b, .int .i64 t2] 31)
        have Kb4 := Kb3.alloc (.cells #[.int .i64 o, .int .i64 l, .int .i64 m, .slice A3 Qs.length c3, .int .i64 b, .int .i64 t2] 31)
        have P4 := P3.alloc (.cells #[.int .i64 o, .int .i64 l, .int .i64 m, .slice A3 Qs.length c3, .int .i64 b, .int .i64 t2] 31)
        have X_4 := X_3.alloc (.cells #[.int .i64 o, .int .i64 l, .int .i64 m, .slice A3 Qs.length c3, .int .i64 b, .int .i64 t2] 31)
        have Xb4 := Blk.new w2 31 #[.int .i64 o, .int .i64 l, .int .i64 m, .slice A3 Qs.length c3, .int .i64 b, .int .i64 t2]
        clear B3 Kb3 P3 X_3
        have Kbc0 : (w2.alloc (.cells #[.int .i64 o, .int .i64 l, .int .i64 m, .slice A3 Qs.length c3, .int .i64 b, .int .i64 t2] 31)).cell? ⟨w1.heap.size, 0, none⟩ = some (.int .i64 o) := Kb4.cell 0
        have Kbc1 : (w2.alloc (.cells #[.int .i64 o, .int .i64 l, .int .i64 m, .slice A3 Qs.length c3, .int .i64 b, .int .i64 t2] 31)).cell? ⟨w1.heap.size, 1, none⟩ = some (.int .i64 l) := Kb4.cell 1
        have Kbc2 : (w2.alloc (.cells #[.int .i64 o, .int .i64 l, .int .i64 m, .slice A3 Qs.length c3, .int .i64 b, .int .i64 t2] 31)).cell? ⟨w1.heap.size, 2, none⟩ = some (.int .i64 m) := Kb4.cell 2
        have Kbc3 : (w2.alloc (.cells #[.int .i64 o, .int .i64 l, .int .i64 m, .slice A3 Qs.length c3, .int .i64 b, .int .i64 t2] 31)).cell? ⟨w1.heap.size, 3, none⟩ = some (.slice A2 ps.length c2) := Kb4.cell 3
        have Kbc4 : (w2.alloc (.cells #[.int .i64 o, .int .i64 l, .int .i64 m, .slice A3 Qs.length c3, .int .i64 b, .int .i64 t2] 31)).cell? ⟨w1.heap.size, 4, none⟩ = some (.int .i64 b) := Kb4.cell 4
        have Kbc5 : (w2.alloc (.cells #[.int .i64 o, .int .i64 l, .int .i64 m, .slice A3 Qs.length c3, .int .i64 b, .int .i64 t2] 31)).cell? ⟨w1.heap.size, 5, none⟩ = some (.int .i64 t) := Kb4.cell 5
        go_wp2_with fail
        refine ((unhide CS) _ _ _ (P4.pr (Nat.le_refl _)) hcp).mono ?_; rintro e w3 ⟨A4, c4, rfl, O4, hb⟩
        have s5 : (w2.alloc (.cells #[.int .i64 o, .int .i64 l, .int .i64 m, .slice A3 Qs.length c3, .int .i64 b, .int .i64 t2] 31)).heap.size ≤ w3.heap.size := Below.size hb
        have B5 := below_next (Nat.le_refl _) B4 hb
        have Kb5 := Kb4.below hb Kb4.lt
        have Xb5 := Xb4.below hb Xb4.lt
        have P5 := P4.below hb
        have X_5 := X_4.below hb
        clear B4 Kb4 Xb4 P4 X_4 Kbc0 Kbc1 Kbc2 Kbc3 Kbc4 Kbc5 hb
        have W_5 := OwnV.pairs O4
        clear O4
        have s6 : (w3.alloc (.cells #[.int .i64 o, .int .i64 l, .int .i64 m, .slice A4 Qs.length c4, .int .i64 b, .int .i64 t2] 31)).heap.size = w3.heap.size + 1 := World.size_alloc _ _
        have B6 := B5.alloc B5.size (.cells #[.int .i64 o, .int .i64 l, .int .i64 m, .slice A4 Qs.length c4, .int .i64 b, .int .i64 t2] 31)
        have Kb6 := Kb5.alloc (.cells #[.int .i64 o, .int .i64 l, .int .i64 m, .slice A4 Qs.length c4, .int .i64 b, .int .i64 t2] 31)
        have Xb6 := Xb5.alloc (.cells #[.int .i64 o, .int .i64 l, .int .i64 m, .slice A4 Qs.length c4, .int .i64 b, .int .i64 t2] 31)
        have P6 := P5.alloc (.cells #[.int .i64 o, .int .i64 l, .int .i64 m, .slice A4 Qs.length c4, .int .i64 b, .int .i64 t2] 31)
        have X_6 := X_5.alloc (.cells #[.int .i64 o, .int .i64 l, .int .i64 m, .slice A4 Qs.length c4, .int .i64 b, .int .i64 t2] 31)
        have W_6 := W_5.alloc (.cells #[.int .i64 o, .int .i64 l, .int .i64 m, .slice A4 Qs.length c4, .int .i64 b, .int .i64 t2] 31)
        have Wb6 := Blk.new w3 31 #[.int .i64 o, .int .i64 l, .int .i64 m, .slice A4 Qs.length c4, .int .i64 b, .int .i64 t2]
        clear B5 Kb5 Xb5 P5 X_5 W_5
        have Xbc0 : (w3.alloc (.cells #[.int .i64 o, .int .i64 l, .int .i64 m, .slice A4 Qs.length c4, .int .i64 b, .int .i64 t2] 31)).cell? ⟨w2.heap.size, 0, none⟩ = some (.int .i64 o) := Xb6.cell 0
        have Xbc1 : (w3.alloc (.cells #[.int .i64 o, .int .i64 l, .int .i64 m, .slice A4 Qs.length c4, .int .i64 b, .int .i64 t2] 31)).cell? ⟨w2.heap.size, 1, none⟩ = some (.int .i64 l) := Xb6.cell 1
        have Xbc2 : (w3.alloc (.cells #[.int .i64 o, .int .i64 l, .int .i64 m, .slice A4 Qs.length c4, .int .i64 b, .int .i64 t2] 31)).cell? ⟨w2.heap.size, 2, none⟩ = some (.int .i64 m) := Xb6.cell 2
        have Xbc3 : (w3.alloc (.cells #[.int .i64 o, .int .i64 l, .int .i64 m, .slice A4 Qs.length c4, .int .i64 b, .int .i64 t2] 31)).cell? ⟨w2.heap.size, 3, none⟩ = some (.slice A3 Qs.length c3) := Xb6.cell 3
        have Xbc4 : (w3.alloc (.cells #[.int .i64 o, .int .i64 l, .int .i64 m, .slice A4 Qs.length c4, .int .i64 b, .int .i64 t2] 31)).cell? ⟨w2.heap.size, 4, none⟩ = some (.int .i64 b) := Xb6.cell 4
        have Xbc5 : (w3.alloc (.cells #[.int .i64 o, .int .i64 l, .int .i64 m, .slice A4 Qs.length c4, .int .i64 b, .int .i64 t2] 31)).cell? ⟨w2.heap.size, 5, none⟩ = some (.int .i64 t2) := Xb6.cell 5
        have Wbc0 : (w3.alloc (.cells #[.int .i64 o, .int .i64 l, .int .i64 m, .slice A4 Qs.length c4, .int .i64 b, .int .i64 t2] 31)).cell? ⟨w3.heap.size, 0, none⟩ = some (.int .i64 o) := Wb6.cell 0
        have Wbc1 : (w3.alloc (.cells #[.int .i64 o, .int .i64 l, .int .i64 m, .slice A4 Qs.length c4, .int .i64 b, .int .i64 t2] 31)).cell? ⟨w3.heap.size, 1, none⟩ = some (.int .i64 l) := Wb6.cell 1
        have Wbc2 : (w3.alloc (.cells #[.int .i64 o, .int .i64 l, .int .i64 m, .slice A4 Qs.length c4, .int .i64 b, .int .i64 t2] 31)).cell? ⟨w3.heap.size, 2, none⟩ = some (.int .i64 m) := Wb6.cell 2
        have Wbc3 : (w3.alloc (.cells #[.int .i64 o, .int .i64 l, .int .i64 m, .slice A4 Qs.length c4, .int .i64 b, .int .i64 t2] 31)).cell? ⟨w3.heap.size, 3, none⟩ = some (.slice A4 Qs.length c4) := Wb6.cell 3
        have Wbc4 : (w3.alloc (.cells #[.int .i64 o, .int .i64 l, .int .i64 m, .slice A4 Qs.length c4, .int .i64 b, .int .i64 t2] 31)).cell? ⟨w3.heap.size, 4, none⟩ = some (.int .i64 b) := Wb6.cell 4
        have Wbc5 : (w3.alloc (.cells #[.int .i64 o, .int .i64 l, .int .i64 m, .slice A4 Qs.length c4, .int .i64 b, .int .i64 t2] 31)).cell? ⟨w3.heap.size, 5, none⟩ = some (.int .i64 t2) := Wb6.cell 5
        go_wp2_with fail
        refine (laws_soKnown o l m A3 A4 c3 c4 b t2 Qs _ (X_6.pr (Nat.le_refl _)) (W_6.pr (Nat.le_refl _)) hl2).mono ?_; rintro e w4 ⟨rfl, hb⟩
        have s7 : (w3.alloc (.cells #[.int .i64 o, .int .i64 l, .int .i64 m, .slice A4 Qs.length c4, .int .i64 b, .int .i64 t2] 31)).heap.size ≤ w4.heap.size := Below.size hb
        have B7 := below_next (Nat.le_refl _) B6 hb
        have Kb7 := Kb6.below hb Kb6.lt
        have Xb7 := Xb6.below hb Xb6.lt
        have Wb7 := Wb6.below hb Wb6.lt
        have P7 := P6.below hb
        have X_7 := X_6.below hb
        have W_7 := W_6.below hb
        clear B6 Kb6 Xb6 Wb6 P6 X_6 W_6 Xbc0 Xbc1 Xbc2 Xbc3 Xbc4 Xbc5 Wbc0 Wbc1 Wbc2 Wbc3 Wbc4 Wbc5 hb
        have Kbc0 : w4.cell? ⟨w1.heap.size, 0, none⟩ = some (.int .i64 o) := Kb7.cell 0
        have Kbc1 : w4.cell? ⟨w1.heap.size, 1, none⟩ = some (.int .i64 l) := Kb7.cell 1
        have Kbc2 : w4.cell? ⟨w1.heap.size, 2, none⟩ = some (.int .i64 m) := Kb7.cell 2
        have Kbc3 : w4.cell? ⟨w1.heap.size, 3, none⟩ = some (.slice A2 ps.length c2) := Kb7.cell 3
        have Kbc4 : w4.cell? ⟨w1.heap.size, 4, none⟩ = some (.int .i64 b) := Kb7.cell 4
        have Kbc5 : w4.cell? ⟨w1.heap.size, 5, none⟩ = some (.int .i64 t) := Kb7.cell 5
        go_wp2_with fail
        refine ((unhide CG) _ (P7.pr (Nat.le_refl _))).mono ?_; rintro e w5 ⟨rfl, hb⟩
        have s8 : w4.heap.size ≤ w5.heap.size := Below.size hb
        have B8 := below_next (Nat.le_refl _) B7 hb
        have Kb8 := Kb7.below hb Kb7.lt
        have Xb8 := Xb7.below hb Xb7.lt
        have Wb8 := Wb7.below hb Wb7.lt
        have P8 := P7.below hb
        have X_8 := X_7.below hb
        have W_8 := W_7.below hb
        clear B7 Kb7 Xb7 Wb7 P7 X_7 W_7 Kbc0 Kbc1 Kbc2 Kbc3 Kbc4 Kbc5 hb
        have Xbc0 : w5.cell? ⟨w2.heap.size, 0, none⟩ = some (.int .i64 o) := Xb8.cell 0
        have Xbc1 : w5.cell? ⟨w2.heap.size, 1, none⟩ = some (.int .i64 l) := Xb8.cell 1
        have Xbc2 : w5.cell? ⟨w2.heap.size, 2, none⟩ = some (.int .i64 m) := Xb8.cell 2
        have Xbc3 : w5.cell? ⟨w2.heap.size, 3, none⟩ = some (.slice A3 Qs.length c3) := Xb8.cell 3
        have Xbc4 : w5.cell? ⟨w2.heap.size, 4, none⟩ = some (.int .i64 b) := Xb8.cell 4
        have Xbc5 : w5.cell? ⟨w2.heap.size, 5, none⟩ = some (.int .i64 t2) := Xb8.cell 5
        have Wbc0 : w5.cell? ⟨w3.heap.size, 0, none⟩ = some (.int .i64 o) := Wb8.cell 0
        have Wbc1 : w5.cell? ⟨w3.heap.size, 1, none⟩ = some (.int .i64 l) := Wb8.cell 1
        have Wbc2 : w5.cell? ⟨w3.heap.size, 2, none⟩ = some (.int .i64 m) := Wb8.cell 2
        have Wbc3 : w5.cell? ⟨w3.heap.size, 3, none⟩ = some (.slice A4 Qs.length c4) := Wb8.cell 3
        have Wbc4 : w5.cell? ⟨w3.heap.size, 4, none⟩ = some (.int .i64 b) := Wb8.cell 4
        have Wbc5 : w5.cell? ⟨w3.heap.size, 5, none⟩ = some (.int .i64 t2) := Wb8.cell 5
        go_wp2_with fail
        refine (laws_soKnown o l m A3 A4 c3 c4 b t2 Qs _ (X_8.pr (Nat.le_refl _)) (W_8.pr (Nat.le_refl _)) hl2).mono ?_; rintro e w6 ⟨rfl, hb⟩
        have s9 : w5.heap.size ≤ w6.heap.size := Below.size hb
        have B9 := below_next (Nat.le_refl _) B8 hb
        have Kb9 := Kb8.below hb Kb8.lt
        have Xb9 := Xb8.below hb Xb8.lt
        have Wb9 := Wb8.below hb Wb8.lt
        have P9 := P8.below hb
        have X_9 := X_8.below hb
        have W_9 := W_8.below hb
        clear B8 Kb8 Xb8 Wb8 P8 X_8 W_8 Xbc0 Xbc1 Xbc2 Xbc3 Xbc4 Xbc5 Wbc0 Wbc1 Wbc2 Wbc3 Wbc4 Wbc5 hb
        go_wp2_with fail
        go_ret
        exact ⟨rfl, B9⟩
      · by_cases hx : x = Sx.two l
        · skip
          rw [hg] at CG
          have CG := hide CG
          unfold AftY at CS CI
          obtain ⟨Qs, hQs⟩ : ∃ P, P = Sx.stepP l m ps b t x := ⟨_, rfl⟩
          obtain ⟨t2, hT2⟩ : ∃ t2, t2 = Sx.advT l x := ⟨_, rfl⟩
          rw [← hQs, ← hT2] at CS CI
          rw [← hQs] at hl2
          have hl2 : Qs.length ≤ 1048576 := by omega
          have CS := hide CS
          have CI := hide CI
          have ec : (x == Sx.two l) = true := by rw [beq_iff_eq]; exact hx
          clear hk hgo hg hQs hT2 hok hx
          have Kbc0 : (w1.alloc (.cells #[.int .i64 o, .int .i64 l, .int .i64 m, .slice A2 ps.length c2, .int .i64 b, .int .i64 t] 31)).cell? ⟨w1.heap.size, 0, none⟩ = some (.int .i64 o) := Kb2.cell 0
          have Kbc1 : (w1.alloc (.cells #[.int .i64 o, .int .i64 l, .int .i64 m, .slice A2 ps.length c2, .int .i64 b, .int .i64 t] 31)).cell? ⟨w1.heap.size, 1, none⟩ = some (.int .i64 l) := Kb2.cell 1
          have Kbc2 : (w1.alloc (.cells #[.int .i64 o, .int .i64 l, .int .i64 m, .slice A2 ps.length c2, .int .i64 b, .int .i64 t] 31)).cell? ⟨w1.heap.size, 2, none⟩ = some (.int .i64 m) := Kb2.cell 2
          have Kbc3 : (w1.alloc (.cells #[.int .i64 o, .int .i64 l, .int .i64 m, .slice A2 ps.length c2, .int .i64 b, .int .i64 t] 31)).cell? ⟨w1.heap.size, 3, none⟩ = some (.slice A2 ps.length c2) := Kb2.cell 3
          have Kbc4 : (w1.alloc (.cells #[.int .i64 o, .int .i64 l, .int .i64 m, .slice A2 ps.length c2, .int .i64 b, .int .i64 t] 31)).cell? ⟨w1.heap.size, 4, none⟩ = some (.int .i64 b) := Kb2.cell 4
          have Kbc5 : (w1.alloc (.cells #[.int .i64 o, .int .i64 l, .int .i64 m, .slice A2 ps.length c2, .int .i64 b, .int .i64 t] 31)).cell? ⟨w1.heap.size, 5, none⟩ = some (.int .i64 t) := Kb2.cell 5
          go_wp2_with fail
          refine ((unhide CI) _ _ _ (P2.pr (Nat.le_refl _)) hcp).mono ?_; rintro e w2 ⟨A3, c3, rfl, O3, hb⟩
          have s3 : (w1.alloc (.cells #[.int .i64 o, .int .i64 l, .int .i64 m, .slice A2 ps.length c2, .int .i64 b, .int .i64 t] 31)).heap.size ≤ w2.heap.size := Below.size hb
          have B3 := below_next (Nat.le_refl _) B2 hb
          have Kb3 := Kb2.below hb Kb2.lt
          have P3 := P2.below hb
          clear B2 Kb2 P2 Kbc0 Kbc1 Kbc2 Kbc3 Kbc4 Kbc5 hb
          have X_3 := OwnV.pairs O3
          clear O3
          have s4 : (w2.alloc (.cells #[.int .i64 o, .int .i64 l, .int .i64 m, .slice A3 Qs.length c3, .int .i64 b, .int .i64 t2] 31)).heap.size = w2.heap.size + 1 := World.size_alloc _ _
          have B4 := B3.alloc B3.size (.cells #[.int .i64 o, .int .i64 l, .int .i64 m, .slice A3 Qs.length c3, .int .i64 b, .int .i64 t2] 31)
          have Kb4 := Kb3.alloc (.cells #[.int .i64 o, .int .i64 l, .int .i64 m, .slice A3 Qs.length c3, .int .i64 b, .int .i64 t2] 31)
          have P4 := P3.alloc (.cells #[.int .i64 o, .int .i64 l, .int .i64 m, .slice A3 Qs.length c3, .int .i64 b, .int .i64 t2] 31)
          have X_4 := X_3.alloc (.cells #[.int .i64 o, .int .i64 l, .int .i64 m, .slice A3 Qs.length c3, .int .i64 b, .int .i64 t2] 31)
          have Xb4 := Blk.new w2 31 #[.int .i64 o, .int .i64 l, .int .i64 m, .slice A3 Qs.length c3, .int .i64 b, .int .i64 t2]
          clear B3 Kb3 P3 X_3
          have Kbc0 : (w2.alloc (.cells #[.int .i64 o, .int .i64 l, .int .i64 m, .slice A3 Qs.length c3, .int .i64 b, .int .i64 t2] 31)).cell? ⟨w1.heap.size, 0, none⟩ = some (.int .i64 o) := Kb4.cell 0
          have Kbc1 : (w2.alloc (.cells #[.int .i64 o, .int .i64 l, .int .i64 m, .slice A3 Qs.length c3, .int .i64 b, .int .i64 t2] 31)).cell? ⟨w1.heap.size, 1, none⟩ = some (.int .i64 l) := Kb4.cell 1
          have Kbc2 : (w2.alloc (.cells #[.int .i64 o, .int .i64 l, .int .i64 m, .slice A3 Qs.length c3, .int .i64 b, .int .i64 t2] 31)).cell? ⟨w1.heap.size, 2, none⟩ = some (.int .i64 m) := Kb4.cell 2
          have Kbc3 : (w2.alloc (.cells #[.int .i64 o, .int .i64 l, .int .i64 m, .slice A3 Qs.length c3, .int .i64 b, .int .i64 t2] 31)).cell? ⟨w1.heap.size, 3, none⟩ = some (.slice A2 ps.length c2) := Kb4.cell 3
          have Kbc4 : (w2.alloc (.cells #[.int .i64 o, .int .i64 l, .int .i64 m, .slice A3 Qs.length c3, .int .i64 b, .int .i64 t2] 31)).cell? ⟨w1.heap.size, 4, none⟩ = some (.int .i64 b) := Kb4.cell 4
          have Kbc5 : (w2.alloc (.cells #[.int .i64 o, .int .i64 l, .int .i64 m, .slice A3 Qs.length c3, .int .i64 b, .int .i64 t2] 31)).cell? ⟨w1.heap.size, 5, none⟩ = some (.int .i64 t) := Kb4.cell 5
          go_wp2_with fail
          refine ((unhide CS) _ _ _ (P4.pr (Nat.le_refl _)) hcp).mono ?_; rintro e w3 ⟨A4, c4, rfl, O4, hb⟩
          have s5 : (w2.alloc (.cells #[.int .i64 o, .int .i64 l, .int .i64 m, .slice A3 Qs.length c3, .int .i64 b, .int .i64 t2] 31)).heap.size ≤ w3.heap.size := Below.size hb
          have B5 := below_next (Nat.le_refl _) B4 hb
          have Kb5 := Kb4.below hb Kb4.lt
          have Xb5 := Xb4.below hb Xb4.lt
          have P5 := P4.below hb
          have X_5 := X_4.below hb
          clear B4 Kb4 Xb4 P4 X_4 Kbc0 Kbc1 Kbc2 Kbc3 Kbc4 Kbc5 hb
          have W_5 := OwnV.pairs O4
          clear O4
          have s6 : (w3.alloc (.cells #[.int .i64 o, .int .i64 l, .int .i64 m, .slice A4 Qs.length c4, .int .i64 b, .int .i64 t2] 31)).heap.size = w3.heap.size + 1 := World.size_alloc _ _
          have B6 := B5.alloc B5.size (.cells #[.int .i64 o, .int .i64 l, .int .i64 m, .slice A4 Qs.length c4, .int .i64 b, .int .i64 t2] 31)
          have Kb6 := Kb5.alloc (.cells #[.int .i64 o, .int .i64 l, .int .i64 m, .slice A4 Qs.length c4, .int .i64 b, .int .i64 t2] 31)
          have Xb6 := Xb5.alloc (.cells #[.int .i64 o, .int .i64 l, .int .i64 m, .slice A4 Qs.length c4, .int .i64 b, .int .i64 t2] 31)
          have P6 := P5.alloc (.cells #[.int .i64 o, .int .i64 l, .int .i64 m, .slice A4 Qs.length c4, .int .i64 b, .int .i64 t2] 31)
          have X_6 := X_5.alloc (.cells #[.int .i64 o, .int .i64 l, .int .i64 m, .slice A4 Qs.length c4, .int .i64 b, .int .i64 t2] 31)
          have W_6 := W_5.alloc (.cells #[.int .i64 o, .int .i64 l, .int .i64 m, .slice A4 Qs.length c4, .int .i64 b, .int .i64 t2] 31)
          have Wb6 := Blk.new w3 31 #[.int .i64 o, .int .i64 l, .int .i64 m, .slice A4 Qs.length c4, .int .i64 b, .int .i64 t2]
          clear B5 Kb5 Xb5 P5 X_5 W_5
          have Xbc0 : (w3.alloc (.cells #[.int .i64 o, .int .i64 l, .int .i64 m, .slice A4 Qs.length c4, .int .i64 b, .int .i64 t2] 31)).cell? ⟨w2.heap.size, 0, none⟩ = some (.int .i64 o) := Xb6.cell 0
          have Xbc1 : (w3.alloc (.cells #[.int .i64 o, .int .i64 l, .int .i64 m, .slice A4 Qs.length c4, .int .i64 b, .int .i64 t2] 31)).cell? ⟨w2.heap.size, 1, none⟩ = some (.int .i64 l) := Xb6.cell 1
          have Xbc2 : (w3.alloc (.cells #[.int .i64 o, .int .i64 l, .int .i64 m, .slice A4 Qs.length c4, .int .i64 b, .int .i64 t2] 31)).cell? ⟨w2.heap.size, 2, none⟩ = some (.int .i64 m) := Xb6.cell 2
          have Xbc3 : (w3.alloc (.cells #[.int .i64 o, .int .i64 l, .int .i64 m, .slice A4 Qs.length c4, .int .i64 b, .int .i64 t2] 31)).cell? ⟨w2.heap.size, 3, none⟩ = some (.slice A3 Qs.length c3) := Xb6.cell 3
          have Xbc4 : (w3.alloc (.cells #[.int .i64 o, .int .i64 l, .int .i64 m, .slice A4 Qs.length c4, .int .i64 b, .int .i64 t2] 31)).cell? ⟨w2.heap.size, 4, none⟩ = some (.int .i64 b) := Xb6.cell 4
          have Xbc5 : (w3.alloc (.cells #[.int .i64 o, .int .i64 l, .int .i64 m, .slice A4 Qs.length c4, .int .i64 b, .int .i64 t2] 31)).cell? ⟨w2.heap.size, 5, none⟩ = some (.int .i64 t2) := Xb6.cell 5
          have Wbc0 : (w3.alloc (.cells #[.int .i64 o, .int .i64 l, .int .i64 m, .slice A4 Qs.length c4, .int .i64 b, .int .i64 t2] 31)).cell? ⟨w3.heap.size, 0, none⟩ = some (.int .i64 o) := Wb6.cell 0
          have Wbc1 : (w3.alloc (.cells #[.int .i64 o, .int .i64 l, .int .i64 m, .slice A4 Qs.length c4, .int .i64 b, .int .i64 t2] 31)).cell? ⟨w3.heap.size, 1, none⟩ = some (.int .i64 l) := Wb6.cell 1
          have Wbc2 : (w3.alloc (.cells #[.int .i64 o, .int .i64 l, .int .i64 m, .slice A4 Qs.length c4, .int .i64 b, .int .i64 t2] 31)).cell? ⟨w3.heap.size, 2, none⟩ = some (.int .i64 m) := Wb6.cell 2
          have Wbc3 : (w3.alloc (.cells #[.int .i64 o, .int .i64 l, .int .i64 m, .slice A4 Qs.length c4, .int .i64 b, .int .i64 t2] 31)).cell? ⟨w3.heap.size, 3, none⟩ = some (.slice A4 Qs.length c4) := Wb6.cell 3
          have Wbc4 : (w3.alloc (.cells #[.int .i64 o, .int .i64 l, .int .i64 m, .slice A4 Qs.length c4, .int .i64 b, .int .i64 t2] 31)).cell? ⟨w3.heap.size, 4, none⟩ = some (.int .i64 b) := Wb6.cell 4
          have Wbc5 : (w3.alloc (.cells #[.int .i64 o, .int .i64 l, .int .i64 m, .slice A4 Qs.length c4, .int .i64 b, .int .i64 t2] 31)).cell? ⟨w3.heap.size, 5, none⟩ = some (.int .i64 t2) := Wb6.cell 5
          go_wp2_with fail
          refine (laws_soKnown o l m A3 A4 c3 c4 b t2 Qs _ (X_6.pr (Nat.le_refl _)) (W_6.pr (Nat.le_refl _)) hl2).mono ?_; rintro e w4 ⟨rfl, hb⟩
          have s7 : (w3.alloc (.cells #[.int .i64 o, .int .i64 l, .int .i64 m, .slice A4 Qs.length c4, .int .i64 b, .int .i64 t2] 31)).heap.size ≤ w4.heap.size := Below.size hb
          have B7 := below_next (Nat.le_refl _) B6 hb
          have Kb7 := Kb6.below hb Kb6.lt
          have Xb7 := Xb6.below hb Xb6.lt
          have Wb7 := Wb6.below hb Wb6.lt
          have P7 := P6.below hb
          have X_7 := X_6.below hb
          have W_7 := W_6.below hb
          clear B6 Kb6 Xb6 Wb6 P6 X_6 W_6 Xbc0 Xbc1 Xbc2 Xbc3 Xbc4 Xbc5 Wbc0 Wbc1 Wbc2 Wbc3 Wbc4 Wbc5 hb
          have Kbc0 : w4.cell? ⟨w1.heap.size, 0, none⟩ = some (.int .i64 o) := Kb7.cell 0
          have Kbc1 : w4.cell? ⟨w1.heap.size, 1, none⟩ = some (.int .i64 l) := Kb7.cell 1
          have Kbc2 : w4.cell? ⟨w1.heap.size, 2, none⟩ = some (.int .i64 m) := Kb7.cell 2
          have Kbc3 : w4.cell? ⟨w1.heap.size, 3, none⟩ = some (.slice A2 ps.length c2) := Kb7.cell 3
          have Kbc4 : w4.cell? ⟨w1.heap.size, 4, none⟩ = some (.int .i64 b) := Kb7.cell 4
          have Kbc5 : w4.cell? ⟨w1.heap.size, 5, none⟩ = some (.int .i64 t) := Kb7.cell 5
          go_wp2_with fail
          refine ((unhide CG) _ (P7.pr (Nat.le_refl _))).mono ?_; rintro e w5 ⟨rfl, hb⟩
          have s8 : w4.heap.size ≤ w5.heap.size := Below.size hb
          have B8 := below_next (Nat.le_refl _) B7 hb
          have Kb8 := Kb7.below hb Kb7.lt
          have Xb8 := Xb7.below hb Xb7.lt
          have Wb8 := Wb7.below hb Wb7.lt
          have P8 := P7.below hb
          have X_8 := X_7.below hb
          have W_8 := W_7.below hb
          clear B7 Kb7 Xb7 Wb7 P7 X_7 W_7 Kbc0 Kbc1 Kbc2 Kbc3 Kbc4 Kbc5 hb
          have Kbc0 : w5.cell? ⟨w1.heap.size, 0, none⟩ = some (.int .i64 o) := Kb8.cell 0
          have Kbc1 : w5.cell? ⟨w1.heap.size, 1, none⟩ = some (.int .i64 l) := Kb8.cell 1
          have Kbc2 : w5.cell? ⟨w1.heap.size, 2, none⟩ = some (.int .i64 m) := Kb8.cell 2
          have Kbc3 : w5.cell? ⟨w1.heap.size, 3, none⟩ = some (.slice A2 ps.length c2) := Kb8.cell 3
          have Kbc4 : w5.cell? ⟨w1.heap.size, 4, none⟩ = some (.int .i64 b) := Kb8.cell 4
          have Kbc5 : w5.cell? ⟨w1.heap.size, 5, none⟩ = some (.int .i64 t) := Kb8.cell 5
          go_wp2_with fail
          refine ((unhide CC) _).mono ?_; rintro e w6 ⟨rfl, hb⟩
          have s9 : w5.heap.size ≤ w6.heap.size := Below.size hb
          have B9 := below_next (Nat.le_refl _) B8 hb
          have Kb9 := Kb8.below hb Kb8.lt
          have Xb9 := Xb8.below hb Xb8.lt
          have Wb9 := Wb8.below hb Wb8.lt
          have P9 := P8.below hb
          have X_9 := X_8.below hb
          have W_9 := W_8.below hb
          clear B8 Kb8 Xb8 Wb8 P8 X_8 W_8 Kbc0 Kbc1 Kbc2 Kbc3 Kbc4 Kbc5 hb
          have Xbc0 : w6.cell? ⟨w2.heap.size, 0, none⟩ = some (.int .i64 o) := Xb9.cell 0
          have Xbc1 : w6.cell? ⟨w2.heap.size, 1, none⟩ = some (.int .i64 l) := Xb9.cell 1
          have Xbc2 : w6.cell? ⟨w2.heap.size, 2, none⟩ = some (.int .i64 m) := Xb9.cell 2
          have Xbc3 : w6.cell? ⟨w2.heap.size, 3, none⟩ = some (.slice A3 Qs.length c3) := Xb9.cell 3
          have Xbc4 : w6.cell? ⟨w2.heap.size, 4, none⟩ = some (.int .i64 b) := Xb9.cell 4
          have Xbc5 : w6.cell? ⟨w2.heap.size, 5, none⟩ = some (.int .i64 t2) := Xb9.cell 5
          have Wbc0 : w6.cell? ⟨w3.heap.size, 0, none⟩ = some (.int .i64 o) := Wb9.cell 0
          have Wbc1 : w6.cell? ⟨w3.heap.size, 1, none⟩ = some (.int .i64 l) := Wb9.cell 1
          have Wbc2 : w6.cell? ⟨w3.heap.size, 2, none⟩ = some (.int .i64 m) := Wb9.cell 2
          have Wbc3 : w6.cell? ⟨w3.heap.size, 3, none⟩ = some (.slice A4 Qs.length c4) := Wb9.cell 3
          have Wbc4 : w6.cell? ⟨w3.heap.size, 4, none⟩ = some (.int .i64 b) := Wb9.cell 4
          have Wbc5 : w6.cell? ⟨w3.heap.size, 5, none⟩ = some (.int .i64 t2) := Wb9.cell 5
          go_wp2_with fail
          refine (laws_soKnown o l m A3 A4 c3 c4 b t2 Qs _ (X_9.pr (Nat.le_refl _)) (W_9.pr (Nat.le_refl _)) hl2).mono ?_; rintro e w7 ⟨rfl, hb⟩
          have s10 : w6.heap.size ≤ w7.heap.size := Below.size hb
          have B10 := below_next (Nat.le_refl _) B9 hb
          have Kb10 := Kb9.below hb Kb9.lt
          have Xb10 := Xb9.below hb Xb9.lt
          have Wb10 := Wb9.below hb Wb9.lt
          have P10 := P9.below hb
          have X_10 := X_9.below hb
          have W_10 := W_9.below hb
          clear B9 Kb9 Xb9 Wb9 P9 X_9 W_9 Xbc0 Xbc1 Xbc2 Xbc3 Xbc4 Xbc5 Wbc0 Wbc1 Wbc2 Wbc3 Wbc4 Wbc5 hb
          go_wp2_with fail
          go_ret
          exact ⟨rfl, B10⟩
        · skip
          have hc := (Sx.go_of hgo).resolve_left hx
          have hc := hc.2
          obtain ⟨f1, f2, f3, f4, f5, f6⟩ := Sx.fresh_is hk hc hg
          clear f1
          have hu := (Sx.word_yes hk hc).2
          unfold AftY at CS CI
          obtain ⟨Qs, hQs⟩ : ∃ P, P = Sx.stepP l m ps b t x := ⟨_, rfl⟩
          obtain ⟨t2, hT2⟩ : ∃ t2, t2 = Sx.advT l x := ⟨_, rfl⟩
          rw [← hQs, ← hT2] at CS CI
          rw [← hQs] at hl2
          have hl2 : Qs.length ≤ 1048576 := by omega
          have CS := hide CS
          have CI := hide CI
          rw [← hT2] at f2
          subst f2
          rw [← hQs] at f3 f4
          have hL := (Sx.any_length l ps t t2).1
          have hL2 := (Sx.any_length l ps t t2).2
          have hV := (Sx.word_length l ps t).2
          obtain ⟨u, huu⟩ : ∃ u, u = str (Sx.anyW l ps t t2) := ⟨_, rfl⟩
          obtain ⟨v, hvv⟩ : ∃ v, v = str (Sx.word l ps t) := ⟨_, rfl⟩
          rw [← huu] at f3 f4 f6 hu
          rw [← hvv] at f3 f5 f6
          have HL : 0 < u.size := by rw [huu, str_size]; exact hL
          have HL1 : (1 : Int) ≤ (u.size : Int) := by omega
          have HE3 : u.toList.isEmpty = false := Sx.some_text HL
          have hu3 : (u.extract 0 1).size ≤ 1 := by rw [ByteArray.size_extract]; omega
          have hv3 : v.size ≤ 1025 := by rw [hvv, str_size]; omega
          have HS2 : ¬ 9223372036854775807 < v.size + (u.extract 0 1).size := by omega
          have HS3 : ¬ 9223372036854775807 < v.size + min 1 u.size := by omega
          have C1 := hide (fun (wx : World) (hp : PR wx wx.heap.size A2 ps) => by have := laws_soWord o l m A2 c2 b t t2 ps wx hp (by omega); rwa [hu] at this)
          have C2 := hide (fun (wx : World) (hp : PR wx wx.heap.size A2 ps) => by have := laws_soWord o l m A2 c2 b t t ps wx hp (by omega); rwa [f5] at this)
          have C3 := hide (fun (A3 : Option Addr) (c3 : Nat) (wx : World) (hp : PR wx wx.heap.size A3 Qs) => by have := laws_soWord o l m A3 c3 b t2 (Sx.two l + 2 + (ps.length : Int)) Qs wx hp (by omega); rwa [f3] at this)
          have C4 := hide (fun (A3 : Option Addr) (c3 : Nat) (wx : World) (hp : PR wx wx.heap.size A3 Qs) => by have := laws_soWord o l m A3 c3 b t2 t2 Qs wx hp (by omega); rwa [f4] at this)
          have CN := hide (fun (wx : World) (hp : PR wx wx.heap.size A2 ps) => by have := impl_NextWord o l m A2 c2 b t ps wx hp (by omega); rwa [show Sx.nextS o l m ps b t = Sx.two l + 2 + (ps.length : Int) from if_pos hk] at this)
          have ec : (t2 == Sx.two l) = false := by rw [beq_eq_false_iff_ne]; exact hx
          rw [hg] at CG
          have CG := hide CG
          clear hk hgo hg hQs hT2 hok hx hc hu huu hvv f3 f4 f5 hL hL2 hV
          have f6 := hide f6
          have Kbc0 : (w1.alloc (.cells #[.int .i64 o, .int .i64 l, .int .i64 m, .slice A2 ps.length c2, .int .i64 b, .int .i64 t] 31)).cell? ⟨w1.heap.size, 0, none⟩ = some (.int .i64 o) := Kb2.cell 0
          have Kbc1 : (w1.alloc (.cells #[.int .i64 o, .int .i64 l, .int .i64 m, .slice A2 ps.length c2, .int .i64 b, .int .i64 t] 31)).cell? ⟨w1.heap.size, 1, none⟩ = some (.int .i64 l) := Kb2.cell 1
          have Kbc2 : (w1.alloc (.cells #[.int .i64 o, .int .i64 l, .int .i64 m, .slice A2 ps.length c2, .int .i64 b, .int .i64 t] 31)).cell? ⟨w1.heap.size, 2, none⟩ = some (.int .i64 m) := Kb2.cell 2
          have Kbc3 : (w1.alloc (.cells #[.int .i64 o, .int .i64 l, .int .i64 m, .slice A2 ps.length c2, .int .i64 b, .int .i64 t] 31)).cell? ⟨w1.heap.size, 3, none⟩ = some (.slice A2 ps.length c2) := Kb2.cell 3
          have Kbc4 : (w1.alloc (.cells #[.int .i64 o, .int .i64 l, .int .i64 m, .slice A2 ps.length c2, .int .i64 b, .int .i64 t] 31)).cell? ⟨w1.heap.size, 4, none⟩ = some (.int .i64 b) := Kb2.cell 4
          have Kbc5 : (w1.alloc (.cells #[.int .i64 o, .int .i64 l, .int .i64 m, .slice A2 ps.length c2, .int .i64 b, .int .i64 t] 31)).cell? ⟨w1.heap.size, 5, none⟩ = some (.int .i64 t) := Kb2.cell 5
          go_wp2_with fail
          refine ((unhide CI) _ _ _ (P2.pr (Nat.le_refl _)) hcp).mono ?_; rintro e w2 ⟨A3, c3, rfl, O3, hb⟩
          have s3 : (w1.alloc (.cells #[.int .i64 o, .int .i64 l, .int .i64 m, .slice A2 ps.length c2, .int .i64 b, .int .i64 t] 31)).heap.size ≤ w2.heap.size := Below.size hb
          have B3 := below_next (Nat.le_refl _) B2 hb
          have Kb3 := Kb2.below hb Kb2.lt
          have P3 := P2.below hb
          clear B2 Kb2 P2 Kbc0 Kbc1 Kbc2 Kbc3 Kbc4 Kbc5 hb
          have X_3 := OwnV.pairs O3
          clear O3
          have s4 : (w2.alloc (.cells #[.int .i64 o, .int .i64 l, .int .i64 m, .slice A3 Qs.length c3, .int .i64 b, .int .i64 t2] 31)).heap.size = w2.heap.size + 1 := World.size_alloc _ _
          have B4 := B3.alloc B3.size (.cells #[.int .i64 o, .int .i64 l, .int .i64 m, .slice A3 Qs.length c3, .int .i64 b, .int .i64 t2] 31)
          have Kb4 := Kb3.alloc (.cells #[.int .i64 o, .int .i64 l, .int .i64 m, .slice A3 Qs.length c3, .int .i64 b, .int .i64 t2] 31)
          have P4 := P3.alloc (.cells #[.int .i64 o, .int .i64 l, .int .i64 m, .slice A3 Qs.length c3, .int .i64 b, .int .i64 t2] 31)
          have X_4 := X_3.alloc (.cells #[.int .i64 o, .int .i64 l, .int .i64 m, .slice A3 Qs.length c3, .int .i64 b, .int .i64 t2] 31)
          have Xb4 := Blk.new w2 31 #[.int .i64 o, .int .i64 l, .int .i64 m, .slice A3 Qs.length c3, .int .i64 b, .int .i64 t2]
          clear B3 Kb3 P3 X_3
          have Kbc0 : (w2.alloc (.cells #[.int .i64 o, .int .i64 l, .int .i64 m, .slice A3 Qs.length c3, .int .i64 b, .int .i64 t2] 31)).cell? ⟨w1.heap.size, 0, none⟩ = some (.int .i64 o) := Kb4.cell 0
          have Kbc1 : (w2.alloc (.cells #[.int .i64 o, .int .i64 l, .int .i64 m, .slice A3 Qs.length c3, .int .i64 b, .int .i64 t2] 31)).cell? ⟨w1.heap.size, 1, none⟩ = some (.int .i64 l) := Kb4.cell 1
          have Kbc2 : (w2.alloc (.cells #[.int .i64 o, .int .i64 l, .int .i64 m, .slice A3 Qs.length c3, .int .i64 b, .int .i64 t2] 31)).cell? ⟨w1.heap.size, 2, none⟩ = some (.int .i64 m) := Kb4.cell 2
          have Kbc3 : (w2.alloc (.cells #[.int .i64 o, .int .i64 l, .int .i64 m, .slice A3 Qs.length c3, .int .i64 b, .int .i64 t2] 31)).cell? ⟨w1.heap.size, 3, none⟩ = some (.slice A2 ps.length c2) := Kb4.cell 3
          have Kbc4 : (w2.alloc (.cells #[.int .i64 o, .int .i64 l, .int .i64 m, .slice A3 Qs.length c3, .int .i64 b, .int .i64 t2] 31)).cell? ⟨w1.heap.size, 4, none⟩ = some (.int .i64 b) := Kb4.cell 4
          have Kbc5 : (w2.alloc (.cells #[.int .i64 o, .int .i64 l, .int .i64 m, .slice A3 Qs.length c3, .int .i64 b, .int .i64 t2] 31)).cell? ⟨w1.heap.size, 5, none⟩ = some (.int .i64 t) := Kb4.cell 5
          go_wp2_with fail
          refine ((unhide CS) _ _ _ (P4.pr (Nat.le_refl _)) hcp).mono ?_; rintro e w3 ⟨A4, c4, rfl, O4, hb⟩
          have s5 : (w2.alloc (.cells #[.int .i64 o, .int .i64 l, .int .i64 m, .slice A3 Qs.length c3, .int .i64 b, .int .i64 t2] 31)).heap.size ≤ w3.heap.size := Below.size hb
          have B5 := below_next (Nat.le_refl _) B4 hb
          have Kb5 := Kb4.below hb Kb4.lt
          have Xb5 := Xb4.below hb Xb4.lt
          have P5 := P4.below hb
          have X_5 := X_4.below hb
          clear B4 Kb4 Xb4 P4 X_4 Kbc0 Kbc1 Kbc2 Kbc3 Kbc4 Kbc5 hb
          have W_5 := OwnV.pairs O4
          clear O4
          have s6 : (w3.alloc (.cells #[.int .i64 o, .int .i64 l, .int .i64 m, .slice A4 Qs.length c4, .int .i64 b, .int .i64 t2] 31)).heap.size = w3.heap.size + 1 := World.size_alloc _ _
          have B6 := B5.alloc B5.size (.cells #[.int .i64 o, .int .i64 l, .int .i64 m, .slice A4 Qs.length c4, .int .i64 b, .int .i64 t2] 31)
          have Kb6 := Kb5.alloc (.cells #[.int .i64 o, .int .i64 l, .int .i64 m, .slice A4 Qs.length c4, .int .i64 b, .int .i64 t2] 31)
          have Xb6 := Xb5.alloc (.cells #[.int .i64 o, .int .i64 l, .int .i64 m, .slice A4 Qs.length c4, .int .i64 b, .int .i64 t2] 31)
          have P6 := P5.alloc (.cells #[.int .i64 o, .int .i64 l, .int .i64 m, .slice A4 Qs.length c4, .int .i64 b, .int .i64 t2] 31)
          have X_6 := X_5.alloc (.cells #[.int .i64 o, .int .i64 l, .int .i64 m, .slice A4 Qs.length c4, .int .i64 b, .int .i64 t2] 31)
          have W_6 := W_5.alloc (.cells #[.int .i64 o, .int .i64 l, .int .i64 m, .slice A4 Qs.length c4, .int .i64 b, .int .i64 t2] 31)
          have Wb6 := Blk.new w3 31 #[.int .i64 o, .int .i64 l, .int .i64 m, .slice A4 Qs.length c4, .int .i64 b, .int .i64 t2]
          clear B5 Kb5 Xb5 P5 X_5 W_5
          have Xbc0 : (w3.alloc (.cells #[.int .i64 o, .int .i64 l, .int .i64 m, .slice A4 Qs.length c4, .int .i64 b, .int .i64 t2] 31)).cell? ⟨w2.heap.size, 0, none⟩ = some (.int .i64 o) := Xb6.cell 0
          have Xbc1 : (w3.alloc (.cells #[.int .i64 o, .int .i64 l, .int .i64 m, .slice A4 Qs.length c4, .int .i64 b, .int .i64 t2] 31)).cell? ⟨w2.heap.size, 1, none⟩ = some (.int .i64 l) := Xb6.cell 1
          have Xbc2 : (w3.alloc (.cells #[.int .i64 o, .int .i64 l, .int .i64 m, .slice A4 Qs.length c4, .int .i64 b, .int .i64 t2] 31)).cell? ⟨w2.heap.size, 2, none⟩ = some (.int .i64 m) := Xb6.cell 2
          have Xbc3 : (w3.alloc (.cells #[.int .i64 o, .int .i64 l, .int .i64 m, .slice A4 Qs.length c4, .int .i64 b, .int .i64 t2] 31)).cell? ⟨w2.heap.size, 3, none⟩ = some (.slice A3 Qs.length c3) := Xb6.cell 3
          have Xbc4 : (w3.alloc (.cells #[.int .i64 o, .int .i64 l, .int .i64 m, .slice A4 Qs.length c4, .int .i64 b, .int .i64 t2] 31)).cell? ⟨w2.heap.size, 4, none⟩ = some (.int .i64 b) := Xb6.cell 4
          have Xbc5 : (w3.alloc (.cells #[.int .i64 o, .int .i64 l, .int .i64 m, .slice A4 Qs.length c4, .int .i64 b, .int .i64 t2] 31)).cell? ⟨w2.heap.size, 5, none⟩ = some (.int .i64 t2) := Xb6.cell 5
          have Wbc0 : (w3.alloc (.cells #[.int .i64 o, .int .i64 l, .int .i64 m, .slice A4 Qs.length c4, .int .i64 b, .int .i64 t2] 31)).cell? ⟨w3.heap.size, 0, none⟩ = some (.int .i64 o) := Wb6.cell 0
          have Wbc1 : (w3.alloc (.cells #[.int .i64 o, .int .i64 l, .int .i64 m, .slice A4 Qs.length c4, .int .i64 b, .int .i64 t2] 31)).cell? ⟨w3.heap.size, 1, none⟩ = some (.int .i64 l) := Wb6.cell 1
          have Wbc2 : (w3.alloc (.cells #[.int .i64 o, .int .i64 l, .int .i64 m, .slice A4 Qs.length c4, .int .i64 b, .int .i64 t2] 31)).cell? ⟨w3.heap.size, 2, none⟩ = some (.int .i64 m) := Wb6.cell 2
          have Wbc3 : (w3.alloc (.cells #[.int .i64 o, .int .i64 l, .int .i64 m, .slice A4 Qs.length c4, .int .i64 b, .int .i64 t2] 31)).cell? ⟨w3.heap.size, 3, none⟩ = some (.slice A4 Qs.length c4) := Wb6.cell 3
          have Wbc4 : (w3.alloc (.cells #[.int .i64 o, .int .i64 l, .int .i64 m, .slice A4 Qs.length c4, .int .i64 b, .int .i64 t2] 31)).cell? ⟨w3.heap.size, 4, none⟩ = some (.int .i64 b) := Wb6.cell 4
          have Wbc5 : (w3.alloc (.cells #[.int .i64 o, .int .i64 l, .int .i64 m, .slice A4 Qs.length c4, .int .i64 b, .int .i64 t2] 31)).cell? ⟨w3.heap.size, 5, none⟩ = some (.int .i64 t2) := Wb6.cell 5
          go_wp2_with fail
          refine (laws_soKnown o l m A3 A4 c3 c4 b t2 Qs _ (X_6.pr (Nat.le_refl _)) (W_6.pr (Nat.le_refl _)) hl2).mono ?_; rintro e w4 ⟨rfl, hb⟩
          have s7 : (w3.alloc (.cells #[.int .i64 o, .int .i64 l, .int .i64 m, .slice A4 Qs.length c4, .int .i64 b, .int .i64 t2] 31)).heap.size ≤ w4.heap.size := Below.size hb
          have B7 := below_next (Nat.le_refl _) B6 hb
          have Kb7 := Kb6.below hb Kb6.lt
          have Xb7 := Xb6.below hb Xb6.lt
          have Wb7 := Wb6.below hb Wb6.lt
          have P7 := P6.below hb
          have X_7 := X_6.below hb
          have W_7 := W_6.below hb
          clear B6 Kb6 Xb6 Wb6 P6 X_6 W_6 Xbc0 Xbc1 Xbc2 Xbc3 Xbc4 Xbc5 Wbc0 Wbc1 Wbc2 Wbc3 Wbc4 Wbc5 hb
          have Kbc0 : w4.cell? ⟨w1.heap.size, 0, none⟩ = some (.int .i64 o) := Kb7.cell 0
          have Kbc1 : w4.cell? ⟨w1.heap.size, 1, none⟩ = some (.int .i64 l) := Kb7.cell 1
          have Kbc2 : w4.cell? ⟨w1.heap.size, 2, none⟩ = some (.int .i64 m) := Kb7.cell 2
          have Kbc3 : w4.cell? ⟨w1.heap.size, 3, none⟩ = some (.slice A2 ps.length c2) := Kb7.cell 3
          have Kbc4 : w4.cell? ⟨w1.heap.size, 4, none⟩ = some (.int .i64 b) := Kb7.cell 4
          have Kbc5 : w4.cell? ⟨w1.heap.size, 5, none⟩ = some (.int .i64 t) := Kb7.cell 5
          go_wp2_with fail
          refine ((unhide CG) _ (P7.pr (Nat.le_refl _))).mono ?_; rintro e w5 ⟨rfl, hb⟩
          have s8 : w4.heap.size ≤ w5.heap.size := Below.size hb
          have B8 := below_next (Nat.le_refl _) B7 hb
          have Kb8 := Kb7.below hb Kb7.lt
          have Xb8 := Xb7.below hb Xb7.lt
          have Wb8 := Wb7.below hb Wb7.lt
          have P8 := P7.below hb
          have X_8 := X_7.below hb
          have W_8 := W_7.below hb
          clear B7 Kb7 Xb7 Wb7 P7 X_7 W_7 Kbc0 Kbc1 Kbc2 Kbc3 Kbc4 Kbc5 hb
          have Kbc0 : w5.cell? ⟨w1.heap.size, 0, none⟩ = some (.int .i64 o) := Kb8.cell 0
          have Kbc1 : w5.cell? ⟨w1.heap.size, 1, none⟩ = some (.int .i64 l) := Kb8.cell 1
          have Kbc2 : w5.cell? ⟨w1.heap.size, 2, none⟩ = some (.int .i64 m) := Kb8.cell 2
          have Kbc3 : w5.cell? ⟨w1.heap.size, 3, none⟩ = some (.slice A2 ps.length c2) := Kb8.cell 3
          have Kbc4 : w5.cell? ⟨w1.heap.size, 4, none⟩ = some (.int .i64 b) := Kb8.cell 4
          have Kbc5 : w5.cell? ⟨w1.heap.size, 5, none⟩ = some (.int .i64 t) := Kb8.cell 5
          go_wp2_with fail
          refine ((unhide CC) _).mono ?_; rintro e w6 ⟨rfl, hb⟩
          have s9 : w5.heap.size ≤ w6.heap.size := Below.size hb
          have B9 := below_next (Nat.le_refl _) B8 hb
          have Kb9 := Kb8.below hb Kb8.lt
          have Xb9 := Xb8.below hb Xb8.lt
          have Wb9 := Wb8.below hb Wb8.lt
          have P9 := P8.below hb
          have X_9 := X_8.below hb
          have W_9 := W_8.below hb
          clear B8 Kb8 Xb8 Wb8 P8 X_8 W_8 Kbc0 Kbc1 Kbc2 Kbc3 Kbc4 Kbc5 hb
          have Kbc0 : w6.cell? ⟨w1.heap.size, 0, none⟩ = some (.int .i64 o) := Kb9.cell 0
          have Kbc1 : w6.cell? ⟨w1.heap.size, 1, none⟩ = some (.int .i64 l) := Kb9.cell 1
          have Kbc2 : w6.cell? ⟨w1.heap.size, 2, none⟩ = some (.int .i64 m) := Kb9.cell 2
          have Kbc3 : w6.cell? ⟨w1.heap.size, 3, none⟩ = some (.slice A2 ps.length c2) := Kb9.cell 3
          have Kbc4 : w6.cell? ⟨w1.heap.size, 4, none⟩ = some (.int .i64 b) := Kb9.cell 4
          have Kbc5 : w6.cell? ⟨w1.heap.size, 5, none⟩ = some (.int .i64 t) := Kb9.cell 5
          go_wp2_with fail
          refine ((unhide C1) _ (P9.pr (Nat.le_refl _))).mono ?_; rintro e w7 ⟨rfl, hb⟩
          have s10 : w6.heap.size ≤ w7.heap.size := Below.size hb
          have B10 := below_next (Nat.le_refl _) B9 hb
          have Kb10 := Kb9.below hb Kb9.lt
          have Xb10 := Xb9.below hb Xb9.lt
          have Wb10 := Wb9.below hb Wb9.lt
          have P10 := P9.below hb
          have X_10 := X_9.below hb
          have W_10 := W_9.below hb
          clear B9 Kb9 Xb9 Wb9 P9 X_9 W_9 Kbc0 Kbc1 Kbc2 Kbc3 Kbc4 Kbc5 hb
          have Kbc0 : w7.cell? ⟨w1.heap.size, 0, none⟩ = some (.int .i64 o) := Kb10.cell 0
          have Kbc1 : w7.cell? ⟨w1.heap.size, 1, none⟩ = some (.int .i64 l) := Kb10.cell 1
          have Kbc2 : w7.cell? ⟨w1.heap.size, 2, none⟩ = some (.int .i64 m) := Kb10.cell 2
          have Kbc3 : w7.cell? ⟨w1.heap.size, 3, none⟩ = some (.slice A2 ps.length c2) := Kb10.cell 3
          have Kbc4 : w7.cell? ⟨w1.heap.size, 4, none⟩ = some (.int .i64 b) := Kb10.cell 4
          have Kbc5 : w7.cell? ⟨w1.heap.size, 5, none⟩ = some (.int .i64 t) := Kb10.cell 5
          have Xbc0 : w7.cell? ⟨w2.heap.size, 0, none⟩ = some (.int .i64 o) := Xb10.cell 0
          have Xbc1 : w7.cell? ⟨w2.heap.size, 1, none⟩ = some (.int .i64 l) := Xb10.cell 1
          have Xbc2 : w7.cell? ⟨w2.heap.size, 2, none⟩ = some (.int .i64 m) := Xb10.cell 2
          have Xbc3 : w7.cell? ⟨w2.heap.size, 3, none⟩ = some (.slice A3 Qs.length c3) := Xb10.cell 3
          have Xbc4 : w7.cell? ⟨w2.heap.size, 4, none⟩ = some (.int .i64 b) := Xb10.cell 4
          have Xbc5 : w7.cell? ⟨w2.heap.size, 5, none⟩ = some (.int .i64 t2) := Xb10.cell 5
          go_wp2_with fail
          have s0 : Below w7.heap.size w7 w7.drew ∧ w7.drew.cell? ⟨w1.heap.size, 0, none⟩ = some (.int .i64 o) ∧ w7.drew.cell? ⟨w1.heap.size, 1, none⟩ = some (.int .i64 l) ∧ w7.drew.cell? ⟨w1.heap.size, 2, none⟩ = some (.int .i64 m) ∧ w7.drew.cell? ⟨w1.heap.size, 3, none⟩ = some (.slice A2 ps.length c2) ∧ w7.drew.cell? ⟨w1.heap.size, 4, none⟩ = some (.int .i64 b) ∧ w7.drew.cell? ⟨w1.heap.size, 5, none⟩ = some (.int .i64 t) ∧ w7.drew.cell? ⟨w2.heap.size, 0, none⟩ = some (.int .i64 o) ∧ w7.drew.cell? ⟨w2.heap.size, 1, none⟩ = some (.int .i64 l) ∧ w7.drew.cell? ⟨w2.heap.size, 2, none⟩ = some (.int .i64 m) ∧ w7.drew.cell? ⟨w2.heap.size, 3, none⟩ = some (.slice A3 Qs.length c3) ∧ w7.drew.cell? ⟨w2.heap.size, 4, none⟩ = some (.int .i64 b) ∧ w7.drew.cell? ⟨w2.heap.size, 5, none⟩ = some (.int .i64 t2) := ⟨(Below.refl _ _).drew, Kb10.cell 0, Kb10.cell 1, Kb10.cell 2, Kb10.cell 3, Kb10.cell 4, Kb10.cell 5, Xb10.cell 0, Xb10.cell 1, Xb10.cell 2, Xb10.cell 3, Xb10.cell 4, Xb10.cell 5⟩
          clear Kbc0 Kbc1 Kbc2 Kbc3 Kbc4 Kbc5 Xbc0 Xbc1 Xbc2 Xbc3 Xbc4 Xbc5
          refine wp_region_held_drew (S := (fun W => Below w7.heap.size w7 W ∧ W.cell? ⟨w1.heap.size, 0, none⟩ = some (.int .i64 o) ∧ W.cell? ⟨w1.heap.size, 1, none⟩ = some (.int .i64 l) ∧ W.cell? ⟨w1.heap.size, 2, none⟩ = some (.int .i64 m) ∧ W.cell? ⟨w1.heap.size, 3, none⟩ = some (.slice A2 ps.length c2) ∧ W.cell? ⟨w1.heap.size, 4, none⟩ = some (.int .i64 b) ∧ W.cell? ⟨w1.heap.size, 5, none⟩ = some (.int .i64 t) ∧ W.cell? ⟨w2.heap.size, 0, none⟩ = some (.int .i64 o) ∧ W.cell? ⟨w2.heap.size, 1, none⟩ = some (.int .i64 l) ∧ W.cell? ⟨w2.heap.size, 2, none⟩ = some (.int .i64 m) ∧ W.cell? ⟨w2.heap.size, 3, none⟩ = some (.slice A3 Qs.length c3) ∧ W.cell? ⟨w2.heap.size, 4, none⟩ = some (.int .i64 b) ∧ W.cell? ⟨w2.heap.size, 5, none⟩ = some (.int .i64 t2))) (by kernel_rfl) (by first | assumption | exact s0 | exact keep12 (by assumption) (by assumption)) (fun hHeld => ?_)
          refine wpAnyH_take (i := 0) (oi := { dst := some 67, op := Op.load 31 (Operand.tmp 5), type := 31, pos := "laws.go:365", after := #[], guard := none }) (v := ?_) rfl (by kernel_rfl) (by kernel_rfl) (by kernel_rfl) (fun _ _ _ h => h) (Or.inl ⟨by rfl, ?_⟩) (by assumption) ?_; rotate_left
          · intro W hW; (try dsimp only at hW); go_simp;  try (with_reducible rfl)
          try simp only [Act.put, List.setIfInBounds_toArray, List.set_cons_zero, List.set_cons_succ]
          refine wpAnyH_take (i := 1) (oi := { dst := some 68, op := Op.load 31 (Operand.tmp 3), type := 31, pos := "laws.go:365", after := #[], guard := none }) (v := ?_) rfl (by kernel_rfl) (by kernel_rfl) (by kernel_rfl) (fun _ _ _ h => h) (Or.inl ⟨by rfl, ?_⟩) (by assumption) ?_; rotate_left
          · intro W hW; (try dsimp only at hW); go_simp;  try (with_reducible rfl)
          try simp only [Act.put, List.setIfInBounds_toArray, List.set_cons_zero, List.set_cons_succ]
          refine wpAnyH_ready (rs := [2]) (by kernel_rfl) (by simp) (AllReadyH.cons (i := 2) (o := { dst := some 69, op := Op.call { callee := Callee.value (Operand.func 41), args := #[Operand.tmp 68], argTypes := #[31] }, type := 3, pos := "laws.go:365", after := #[{ on := 1, ground := Ground.data }], guard := none }) rfl (fun K hK => ?_) AllReadyH.nil)
          go_simp
          refine ((unhide CN) _ ((P10.below hHeld.1).pr (Nat.le_refl _))).mono ?_; rintro e y1 ⟨rfl, hb⟩
          try go_wp2_with fail
          refine hK.out _ _ (by (try dsimp only); first | assumption | exact s0 | exact keep12 (by assumption) (by assumption)) (fun hHeld => ?_)
          clear hK K
          try simp only [Act.put, List.setIfInBounds_toArray, List.set_cons_zero, List.set_cons_succ]
          refine wpAnyH_ready (rs := [3]) (by kernel_rfl) (by simp) (AllReadyH.cons (i := 3) (o := { dst := some 70, op := Op.call { callee := Callee.value (Operand.func 33), args := #[Operand.tmp 67, Operand.tmp 69], argTypes := #[31, 3] }, type := 9, pos := "laws.go:365", after := #[{ on := 0, ground := Ground.data }, { on := 2, ground := Ground.data }, { on := 2, ground := Ground.chain }], guard := none }) rfl (fun K hK => ?_) AllReadyH.nil)
          go_simp
          refine ((unhide C3) _ _ _ ((X_10.below hHeld.1).pr (Nat.le_refl _))).mono ?_; rintro e y2 ⟨rfl, hb⟩
          try go_wp2_with fail
          refine hK.out _ _ (by (try dsimp only); first | assumption | exact s0 | exact keep12 (by assumption) (by assumption)) (fun hHeld => ?_)
          clear hK K
          try simp only [Act.put, List.setIfInBounds_toArray, List.set_cons_zero, List.set_cons_succ]
          refine wpAnyH_take (i := 4) (oi := { dst := some 10, op := Op.assign (Operand.tmp 70), type := 9, pos := "laws.go:365", after := #[{ on := 3, ground := Ground.data }, { on := 3, ground := Ground.chain }, { on := 0, ground := Ground.phase }, { on := 1, ground := Ground.phase }, { on := 2, ground := Ground.phase }, { on := 3, ground := Ground.phase }], guard := none }) (v := ?_) rfl (by kernel_rfl) (by kernel_rfl) (by kernel_rfl) (fun _ _ _ h => h) (Or.inl ⟨by rfl, ?_⟩) (by assumption) ?_; rotate_left
          · intro W hW; (try dsimp only at hW); go_simp;  try (with_reducible rfl)
          try simp only [Act.put, List.setIfInBounds_toArray, List.set_cons_zero, List.set_cons_succ]
          refine wpAnyH_done (by kernel_rfl) ?_ _
          have hE := hHeld.1
          clear hHeld s0
          have s11 : w7.heap.size ≤ y2.heap.size := Below.size hE
          have B11 := below_next (Nat.le_refl _) B10 hE
          have Kb11 := Kb10.below hE Kb10.lt
          have Xb11 := Xb10.below hE Xb10.lt
          have Wb11 := Wb10.below hE Wb10.lt
          have P11 := P10.below hE
          have X_11 := X_10.below hE
          have W_11 := W_10.below hE
          clear B10 Kb10 Xb10 Wb10 P10 X_10 W_10 hE
          by_cases hnx : t2 = Sx.two l + 2 + (ps.length : Int)
          · skip
            have e9 : (t2 != Sx.two l + 2 + (ps.length : Int)) = false := by rw [hnx]; simp
            have e10 := f6.out hnx
            clear hnx
            have Kbc0 : y2.cell? ⟨w1.heap.size, 0, none⟩ = some (.int .i64 o) := Kb11.cell 0
            have Kbc1 : y2.cell? ⟨w1.heap.size, 1, none⟩ = some (.int .i64 l) := Kb11.cell 1
            have Kbc2 : y2.cell? ⟨w1.heap.size, 2, none⟩ = some (.int .i64 m) := Kb11.cell 2
            have Kbc3 : y2.cell? ⟨w1.heap.size, 3, none⟩ = some (.slice A2 ps.length c2) := Kb11.cell 3
            have Kbc4 : y2.cell? ⟨w1.heap.size, 4, none⟩ = some (.int .i64 b) := Kb11.cell 4
            have Kbc5 : y2.cell? ⟨w1.heap.size, 5, none⟩ = some (.int .i64 t) := Kb11.cell 5
            have Xbc0 : y2.cell? ⟨w2.heap.size, 0, none⟩ = some (.int .i64 o) := Xb11.cell 0
            have Xbc1 : y2.cell? ⟨w2.heap.size, 1, none⟩ = some (.int .i64 l) := Xb11.cell 1
            have Xbc2 : y2.cell? ⟨w2.heap.size, 2, none⟩ = some (.int .i64 m) := Xb11.cell 2
            have Xbc3 : y2.cell? ⟨w2.heap.size, 3, none⟩ = some (.slice A3 Qs.length c3) := Xb11.cell 3
            have Xbc4 : y2.cell? ⟨w2.heap.size, 4, none⟩ = some (.int .i64 b) := Xb11.cell 4
            have Xbc5 : y2.cell? ⟨w2.heap.size, 5, none⟩ = some (.int .i64 t2) := Xb11.cell 5
            go_wp2_with fail
            have s0 : Below y2.heap.size y2 y2.drew ∧ y2.drew.cell? ⟨w1.heap.size, 0, none⟩ = some (.int .i64 o) ∧ y2.drew.cell? ⟨w1.heap.size, 1, none⟩ = some (.int .i64 l) ∧ y2.drew.cell? ⟨w1.heap.size, 2, none⟩ = some (.int .i64 m) ∧ y2.drew.cell? ⟨w1.heap.size, 3, none⟩ = some (.slice A2 ps.length c2) ∧ y2.drew.cell? ⟨w1.heap.size, 4, none⟩ = some (.int .i64 b) ∧ y2.drew.cell? ⟨w1.heap.size, 5, none⟩ = some (.int .i64 t) ∧ y2.drew.cell? ⟨w2.heap.size, 0, none⟩ = some (.int .i64 o) ∧ y2.drew.cell? ⟨w2.heap.size, 1, none⟩ = some (.int .i64 l) ∧ y2.drew.cell? ⟨w2.heap.size, 2, none⟩ = some (.int .i64 m) ∧ y2.drew.cell? ⟨w2.heap.size, 3, none⟩ = some (.slice A3 Qs.length c3) ∧ y2.drew.cell? ⟨w2.heap.size, 4, none⟩ = some (.int .i64 b) ∧ y2.drew.cell? ⟨w2.heap.size, 5, none⟩ = some (.int .i64 t2) := ⟨(Below.refl _ _).drew, Kb11.cell 0, Kb11.cell 1, Kb11.cell 2, Kb11.cell 3, Kb11.cell 4, Kb11.cell 5, Xb11.cell 0, Xb11.cell 1, Xb11.cell 2, Xb11.cell 3, Xb11.cell 4, Xb11.cell 5⟩
            clear Kbc0 Kbc1 Kbc2 Kbc3 Kbc4 Kbc5 Xbc0 Xbc1 Xbc2 Xbc3 Xbc4 Xbc5
            refine wp_region_held_drew (S := (fun W => Below y2.heap.size y2 W ∧ W.cell? ⟨w1.heap.size, 0, none⟩ = some (.int .i64 o) ∧ W.cell? ⟨w1.heap.size, 1, none⟩ = some (.int .i64 l) ∧ W.cell? ⟨w1.heap.size, 2, none⟩ = some (.int .i64 m) ∧ W.cell? ⟨w1.heap.size, 3, none⟩ = some (.slice A2 ps.length c2) ∧ W.cell? ⟨w1.heap.size, 4, none⟩ = some (.int .i64 b) ∧ W.cell? ⟨w1.heap.size, 5, none⟩ = some (.int .i64 t) ∧ W.cell? ⟨w2.heap.size, 0, none⟩ = some (.int .i64 o) ∧ W.cell? ⟨w2.heap.size, 1, none⟩ = some (.int .i64 l) ∧ W.cell? ⟨w2.heap.size, 2, none⟩ = some (.int .i64 m) ∧ W.cell? ⟨w2.heap.size, 3, none⟩ = some (.slice A3 Qs.length c3) ∧ W.cell? ⟨w2.heap.size, 4, none⟩ = some (.int .i64 b) ∧ W.cell? ⟨w2.heap.size, 5, none⟩ = some (.int .i64 t2))) (by kernel_rfl) (by first | assumption | exact s0 | exact keep12 (by assumption) (by assumption)) (fun hHeld => ?_)
            refine wpAnyH_take (i := 0) (oi := { dst := some 71, op := Op.move (Operand.tmp 9), type := 9, pos := "laws.go:366", after := #[], guard := none }) (v := ?_) rfl (by kernel_rfl) (by kernel_rfl) (by kernel_rfl) (fun _ _ _ h => h) (Or.inl ⟨by rfl, ?_⟩) (by assumption) ?_; rotate_left
            · intro W hW; (try dsimp only at hW); go_simp;  try (with_reducible rfl)
            try simp only [Act.put, List.setIfInBounds_toArray, List.set_cons_zero, List.set_cons_succ]
            refine wpAnyH_take (i := 1) (oi := { dst := some 72, op := Op.binOp BinOp.neq 9 (Operand.tmp 71) (Operand.const (Value.string { data := #[] })) 9, type := 4, pos := "laws.go:366", after := #[{ on := 0, ground := Ground.data }], guard := none }) (v := ?_) rfl (by kernel_rfl) (by kernel_rfl) (by kernel_rfl) (fun _ _ _ h => h) (Or.inl ⟨by rfl, ?_⟩) (by assumption) ?_; rotate_left
            · intro W hW; (try dsimp only at hW); go_simp;  try (with_reducible rfl)
            try simp only [Act.put, List.setIfInBounds_toArray, List.set_cons_zero, List.set_cons_succ]
            refine wpAnyH_take (i := 2) (oi := { dst := some 73, op := Op.move (Operand.tmp 72), type := 4, pos := "laws.go:366", after := #[{ on := 1, ground := Ground.data }], guard := none }) (v := ?_) rfl (by kernel_rfl) (by kernel_rfl) (by kernel_rfl) (fun _ _ _ h => h) (Or.inl ⟨by rfl, ?_⟩) (by assumption) ?_; rotate_left
            · intro W hW; (try dsimp only at hW); go_simp;  try (with_reducible rfl)
            try simp only [Act.put, List.setIfInBounds_toArray, List.set_cons_zero, List.set_cons_succ]
            refine wpAnyH_take (i := 3) (oi := { dst := some 74, op := Op.move (Operand.tmp 10), type := 9, pos := "laws.go:366", after := #[{ on := 2, ground := Ground.guard }], guard := some (2, true) }) (v := ?_) rfl (by kernel_rfl) (by kernel_rfl) (by kernel_rfl) (fun _ _ _ h => h) (Or.inl ⟨by rfl, ?_⟩) (by assumption) ?_; rotate_left
            · intro W hW; (try dsimp only at hW); go_simp;  try (with_reducible rfl)
            try simp only [Act.put, List.setIfInBounds_toArray, List.set_cons_zero, List.set_cons_succ]
            refine wpAnyH_take (i := 4) (oi := { dst := some 75, op := Op.load 31 (Operand.tmp 3), type := 31, pos := "laws.go:366", after := #[{ on := 2, ground := Ground.guard }], guard := some (2, true) }) (v := ?_) rfl (by kernel_rfl) (by kernel_rfl) (by kernel_rfl) (fun _ _ _ h => h) (Or.inl ⟨by rfl, ?_⟩) (by assumption) ?_; rotate_left
            · intro W hW; (try dsimp only at hW); go_simp;  try (with_reducible rfl)
            try simp only [Act.put, List.setIfInBounds_toArray, List.set_cons_zero, List.set_cons_succ]
            refine wpAnyH_take (i := 5) (oi := { dst := some 76, op := Op.fieldAddr 31 (Operand.tmp 3) 3, type := 0, pos := "laws.go:366", after := #[{ on := 2, ground := Ground.guard }], guard := some (2, true) }) (v := ?_) rfl (by kernel_rfl) (by kernel_rfl) (by kernel_rfl) (fun _ _ _ h => h) (Or.inl ⟨by rfl, ?_⟩) (by assumption) ?_; rotate_left
            · intro W hW; (try dsimp only at hW); go_simp;  try (with_reducible rfl)
            try simp only [Act.put, List.setIfInBounds_toArray, List.set_cons_zero, List.set_cons_succ]
            refine wpAnyH_take (i := 6) (oi := { dst := some 77, op := Op.load 3 (Operand.tmp 76), type := 3, pos := "laws.go:366", after := #[{ on := 5, ground := Ground.data }, { on := 2, ground := Ground.guard }], guard := some (2, true) }) (v := ?_) rfl (by kernel_rfl) (by kernel_rfl) (by kernel_rfl) (fun _ _ _ h => h) (Or.inl ⟨by rfl, ?_⟩) (by assumption) ?_; rotate_left
            · intro W hW; (try dsimp only at hW); go_simp;  try (with_reducible rfl)
            try simp only [Act.put, List.setIfInBounds_toArray, List.set_cons_zero, List.set_cons_succ]
            refine wpAnyH_take (i := 8) (oi := { dst := some 79, op := Op.move (Operand.tmp 9), type := 9, pos := "laws.go:366", after := #[{ on := 2, ground := Ground.guard }], guard := some (2, true) }) (v := ?_) rfl (by kernel_rfl) (by kernel_rfl) (by kernel_rfl) (fun _ _ _ h => h) (Or.inl ⟨by rfl, ?_⟩) (by assumption) ?_; rotate_left
            · intro W hW; (try dsimp only at hW); go_simp;  try (with_reducible rfl)
            try simp only [Act.put, List.setIfInBounds_toArray, List.set_cons_zero, List.set_cons_succ]
            refine wpAnyH_take (i := 9) (oi := { dst := some 80, op := Op.slice 9 (Operand.tmp 79) none (some (Operand.const (Value.int IntKind.i64 1))) none, type := 9, pos := "laws.go:366", after := #[{ on := 8, ground := Ground.data }, { on := 2, ground := Ground.guard }], guard := some (2, true) }) (v := ?_) rfl (by kernel_rfl) (by kernel_rfl) (by kernel_rfl) (fun _ _ _ h => h) (Or.inl ⟨by rfl, ?_⟩) (by assumption) ?_; rotate_left
            · intro W hW; (try dsimp only at hW); go_simp;  try (with_reducible rfl)
            try simp only [Act.put, List.setIfInBounds_toArray, List.set_cons_zero, List.set_cons_succ]
            refine wpAnyH_ready (rs := [7]) (by kernel_rfl) (by simp) (AllReadyH.cons (i := 7) (o := { dst := some 78, op := Op.call { callee := Callee.value (Operand.func 33), args := #[Operand.tmp 75, Operand.tmp 77], argTypes := #[31, 3] }, type := 9, pos := "laws.go:366", after := #[{ on := 4, ground := Ground.data }, { on := 6, ground := Ground.data }, { on := 2, ground := Ground.chain }, { on := 2, ground := Ground.guard }], guard := some (2, true) }) rfl (fun K hK => ?_) AllReadyH.nil)
            go_simp
            refine ((unhide C2) _ ((P11.below hHeld.1).pr (Nat.le_refl _))).mono ?_; rintro e z1 ⟨rfl, hb⟩
            try go_wp2_with fail
            refine hK.out _ _ (by (try dsimp only); first | assumption | exact s0 | exact keep12 (by assumption) (by assumption)) (fun hHeld => ?_)
            clear hK K
            try simp only [Act.put, List.setIfInBounds_toArray, List.set_cons_zero, List.set_cons_succ]
            refine wpAnyH_take (i := 10) (oi := { dst := some 81, op := Op.binOp BinOp.add 9 (Operand.tmp 78) (Operand.tmp 80) 9, type := 9, pos := "laws.go:366", after := #[{ on := 7, ground := Ground.data }, { on := 9, ground := Ground.data }, { on := 2, ground := Ground.guard }], guard := some (2, true) }) (v := ?_) rfl (by kernel_rfl) (by kernel_rfl) (by kernel_rfl) (fun _ _ _ h => h) (Or.inl ⟨by rfl, ?_⟩) (by assumption) ?_; rotate_left
            · intro W hW; (try dsimp only at hW); go_simp;  try (with_reducible rfl)
            try simp only [Act.put, List.setIfInBounds_toArray, List.set_cons_zero, List.set_cons_succ]
            refine wpAnyH_take (i := 11) (oi := { dst := some 82, op := Op.binOp BinOp.eql 9 (Operand.tmp 74) (Operand.tmp 81) 9, type := 4, pos := "laws.go:366", after := #[{ on := 3, ground := Ground.data }, { on := 10, ground := Ground.data }, { on := 2, ground := Ground.guard }], guard := some (2, true) }) (v := ?_) rfl (by kernel_rfl) (by kernel_rfl) (by kernel_rfl) (fun _ _ _ h => h) (Or.inl ⟨by rfl, ?_⟩) (by assumption) ?_; rotate_left
            · intro W hW; (try dsimp only at hW); go_simp;  try (with_reducible rfl)
            try simp only [Act.put, List.setIfInBounds_toArray, List.set_cons_zero, List.set_cons_succ]
            refine wpAnyH_take (i := 12) (oi := { dst := some 83, op := Op.pick (Operand.tmp 73) (Operand.tmp 82) (Operand.const (Value.bool false)), type := 4, pos := "laws.go:366", after := #[{ on := 2, ground := Ground.data }, { on := 11, ground := Ground.data }], guard := none }) (v := ?_) rfl (by kernel_rfl) (by kernel_rfl) (by kernel_rfl) (fun _ _ _ h => h) (Or.inl ⟨by rfl, ?_⟩) (by assumption) ?_; rotate_left
            · intro W hW; (try dsimp only at hW); go_simp;  try (with_reducible rfl)
            try simp only [Act.put, List.setIfInBounds_toArray, List.set_cons_zero, List.set_cons_succ]
            refine wpAnyH_take (i := 13) (oi := { dst := some 84, op := Op.move (Operand.tmp 83), type := 4, pos := "laws.go:366", after := #[{ on := 12, ground := Ground.data }, { on := 7, ground := Ground.chain }], guard := none }) (v := ?_) rfl (by kernel_rfl) (by kernel_rfl) (by kernel_rfl) (fun _ _ _ h => h) (Or.inl ⟨by rfl, ?_⟩) (by assumption) ?_; rotate_left
            · intro W hW; (try dsimp only at hW); go_simp;  try (with_reducible rfl)
            try simp only [Act.put, List.setIfInBounds_toArray, List.set_cons_zero, List.set_cons_succ]
            refine wpAnyH_take (i := 14) (oi := { dst := some 85, op := Op.load 31 (Operand.tmp 5), type := 31, pos := "laws.go:366", after := #[{ on := 13, ground := Ground.guard }], guard := some (13, true) }) (v := ?_) rfl (by kernel_rfl) (by kernel_rfl) (by kernel_rfl) (fun _ _ _ h => h) (Or.inl ⟨by rfl, ?_⟩) (by assumption) ?_; rotate_left
            · intro W hW; (try dsimp only at hW); go_simp;  try (with_reducible rfl)
            try simp only [Act.put, List.setIfInBounds_toArray, List.set_cons_zero, List.set_cons_succ]
            refine wpAnyH_take (i := 15) (oi := { dst := some 86, op := Op.move (Operand.tmp 4), type := 3, pos := "laws.go:366", after := #[{ on := 13, ground := Ground.guard }], guard := some (13, true) }) (v := ?_) rfl (by kernel_rfl) (by kernel_rfl) (by kernel_rfl) (fun _ _ _ h => h) (Or.inl ⟨by rfl, ?_⟩) (by assumption) ?_; rotate_left
            · intro W hW; (try dsimp only at hW); go_simp;  try (with_reducible rfl)
            try simp only [Act.put, List.setIfInBounds_toArray, List.set_cons_zero, List.set_cons_succ]
            refine wpAnyH_take (i := 17) (oi := { dst := some 88, op := Op.move (Operand.tmp 9), type := 9, pos := "laws.go:366", after := #[{ on := 13, ground := Ground.guard }], guard := some (13, true) }) (v := ?_) rfl (by kernel_rfl) (by kernel_rfl) (by kernel_rfl) (fun _ _ _ h => h) (Or.inl ⟨by rfl, ?_⟩) (by assumption) ?_; rotate_left
            · intro W hW; (try dsimp only at hW); go_simp;  try (with_reducible rfl)
            try simp only [Act.put, List.setIfInBounds_toArray, List.set_cons_zero, List.set_cons_succ]
            refine wpAnyH_ready (rs := [16]) (by kernel_rfl) (by simp) (AllReadyH.cons (i := 16) (o := { dst := some 87, op := Op.call { callee := Callee.value (Operand.func 33), args := #[Operand.tmp 85, Operand.tmp 86], argTypes := #[31, 3] }, type := 9, pos := "laws.go:366", after := #[{ on := 14, ground := Ground.data }, { on := 15, ground := Ground.data }, { on := 13, ground := Ground.chain }, { on := 13, ground := Ground.guard }], guard := some (13, true) }) rfl (fun K hK => ?_) AllReadyH.nil)
            go_simp
            refine ((unhide C4) _ _ _ ((X_11.below hHeld.1).pr (Nat.le_refl _))).mono ?_; rintro e z2 ⟨rfl, hb⟩
            try go_wp2_with fail
            refine hK.out _ _ (by (try dsimp only); first | assumption | exact s0 | exact keep12 (by assumption) (by assumption)) (fun hHeld => ?_)
            clear hK K
            try simp only [Act.put, List.setIfInBounds_toArray, List.set_cons_zero, List.set_cons_succ]
            refine wpAnyH_take (i := 18) (oi := { dst := some 89, op := Op.binOp BinOp.eql 9 (Operand.tmp 87) (Operand.tmp 88) 9, type := 4, pos := "laws.go:366", after := #[{ on := 16, ground := Ground.data }, { on := 17, ground := Ground.data }, { on := 13, ground := Ground.guard }], guard := some (13, true) }) (v := ?_) rfl (by kernel_rfl) (by kernel_rfl) (by kernel_rfl) (fun _ _ _ h => h) (Or.inl ⟨by rfl, ?_⟩) (by assumption) ?_; rotate_left
            · intro W hW; (try dsimp only at hW); go_simp;  try (with_reducible rfl)
            try simp only [Act.put, List.setIfInBounds_toArray, List.set_cons_zero, List.set_cons_succ]
            refine wpAnyH_take (i := 19) (oi := { dst := some 90, op := Op.pick (Operand.tmp 84) (Operand.tmp 89) (Operand.const (Value.bool false)), type := 4, pos := "laws.go:366", after := #[{ on := 13, ground := Ground.data }, { on := 18, ground := Ground.data }], guard := none }) (v := ?_) rfl (by kernel_rfl) (by kernel_rfl) (by kernel_rfl) (fun _ _ _ h => h) (Or.inl ⟨by rfl, ?_⟩) (by assumption) ?_; rotate_left
            · intro W hW; (try dsimp only at hW); go_simp;  try (with_reducible rfl)
            try simp only [Act.put, List.setIfInBounds_toArray, List.set_cons_zero, List.set_cons_succ]
            refine wpAnyH_take (i := 20) (oi := { dst := some 91, op := Op.move (Operand.tmp 90), type := 4, pos := "laws.go:366", after := #[{ on := 19, ground := Ground.data }, { on := 16, ground := Ground.chain }], guard := none }) (v := ?_) rfl (by kernel_rfl) (by kernel_rfl) (by kernel_rfl) (fun _ _ _ h => h) (Or.inl ⟨by rfl, ?_⟩) (by assumption) ?_; rotate_left
            · intro W hW; (try dsimp only at hW); go_simp;  try (with_reducible rfl)
            try simp only [Act.put, List.setIfInBounds_toArray, List.set_cons_zero, List.set_cons_succ]
            refine wpAnyH_take (i := 21) (oi := { dst := some 92, op := Op.move (Operand.tmp 4), type := 3, pos := "laws.go:366", after := #[{ on := 20, ground := Ground.guard }], guard := some (20, true) }) (v := ?_) rfl (by kernel_rfl) (by kernel_rfl) (by kernel_rfl) (fun _ _ _ h => h) (Or.inl ⟨by rfl, ?_⟩) (by assumption) ?_; rotate_left
            · intro W hW; (try dsimp only at hW); go_simp;  try (with_reducible rfl)
            try simp only [Act.put, List.setIfInBounds_toArray, List.set_cons_zero, List.set_cons_succ]
            refine wpAnyH_take (i := 22) (oi := { dst := some 93, op := Op.load 31 (Operand.tmp 3), type := 31, pos := "laws.go:366", after := #[{ on := 20, ground := Ground.guard }], guard := some (20, true) }) (v := ?_) rfl (by kernel_rfl) (by kernel_rfl) (by kernel_rfl) (fun _ _ _ h => h) (Or.inl ⟨by rfl, ?_⟩) (by assumption) ?_; rotate_left
            · intro W hW; (try dsimp only at hW); go_simp;  try (with_reducible rfl)
            try simp only [Act.put, List.setIfInBounds_toArray, List.set_cons_zero, List.set_cons_succ]
            refine wpAnyH_ready (rs := [23]) (by kernel_rfl) (by simp) (AllReadyH.cons (i := 23) (o := { dst := some 94, op := Op.call { callee := Callee.value (Operand.func 41), args := #[Operand.tmp 93], argTypes := #[31] }, type := 3, pos := "laws.go:366", after := #[{ on := 22, ground := Ground.data }, { on := 20, ground := Ground.chain }, { on := 20, ground := Ground.guard }], guard := some (20, true) }) rfl (fun K hK => ?_) AllReadyH.nil)
            go_simp
            refine ((unhide CN) _ ((P11.below hHeld.1).pr (Nat.le_refl _))).mono ?_; rintro e z3 ⟨rfl, hb⟩
            try go_wp2_with fail
            refine hK.out _ _ (by (try dsimp only); first | assumption | exact s0 | exact keep12 (by assumption) (by assumption)) (fun hHeld => ?_)
            clear hK K
            try simp only [Act.put, List.setIfInBounds_toArray, List.set_cons_zero, List.set_cons_succ]
            refine wpAnyH_take (i := 24) (oi := { dst := some 95, op := Op.binOp BinOp.neq 3 (Operand.tmp 92) (Operand.tmp 94) 3, type := 4, pos := "laws.go:366", after := #[{ on := 21, ground := Ground.data }, { on := 23, ground := Ground.data }, { on := 20, ground := Ground.guard }], guard := some (20, true) }) (v := ?_) rfl (by kernel_rfl) (by kernel_rfl) (by kernel_rfl) (fun _ _ _ h => h) (Or.inl ⟨by rfl, ?_⟩) (by assumption) ?_; rotate_left
            · intro W hW; (try dsimp only at hW); go_simp;  try (with_reducible rfl)
            try simp only [Act.put, List.setIfInBounds_toArray, List.set_cons_zero, List.set_cons_succ]
            refine wpAnyH_take (i := 25) (oi := { dst := some 96, op := Op.move (Operand.tmp 95), type := 4, pos := "laws.go:366", after := #[{ on := 24, ground := Ground.data }, { on := 23, ground := Ground.chain }, { on := 20, ground := Ground.guard }], guard := some (20, true) }) (v := ?_) rfl (by kernel_rfl) (by kernel_rfl) (by kernel_rfl) (fun _ _ _ h => h) (Or.inl ⟨by rfl, ?_⟩) (by assumption) ?_; rotate_left
            · intro W hW; (try dsimp only at hW); go_simp;  try (with_reducible rfl)
            try simp only [Act.put, List.setIfInBounds_toArray, List.set_cons_zero, List.set_cons_succ]
            refine wpAnyH_take (i := 26) (oi := { dst := some 97, op := Op.move (Operand.tmp 10), type := 9, pos := "laws.go:366", after := #[{ on := 25, ground := Ground.guard }], guard := some (25, false) }) (v := ?_) rfl (by kernel_rfl) (by kernel_rfl) (by kernel_rfl) (fun _ _ _ h => h) (Or.inl ⟨by rfl, ?_⟩) (by assumption) ?_; rotate_left
            · intro W hW; (try dsimp only at hW); go_simp;  try (with_reducible rfl)
            try simp only [Act.put, List.setIfInBounds_toArray, List.set_cons_zero, List.set_cons_succ]
            refine wpAnyH_take (i := 27) (oi := { dst := some 98, op := Op.move (Operand.tmp 9), type := 9, pos := "laws.go:366", after := #[{ on := 25, ground := Ground.guard }], guard := some (25, false) }) (v := ?_) rfl (by kernel_rfl) (by kernel_rfl) (by kernel_rfl) (fun _ _ _ h => h) (Or.inl ⟨by rfl, ?_⟩) (by assumption) ?_; rotate_left
            · intro W hW; (try dsimp only at hW); go_simp;  try (with_reducible rfl)
            try simp only [Act.put, List.setIfInBounds_toArray, List.set_cons_zero, List.set_cons_succ]
            refine wpAnyH_take (i := 28) (oi := { dst := some 99, op := Op.binOp BinOp.eql 9 (Operand.tmp 97) (Operand.tmp 98) 9, type := 4, pos := "laws.go:366", after := #[{ on := 26, ground := Ground.data }, { on := 27, ground := Ground.data }, { on := 25, ground := Ground.guard }], guard := some (25, false) }) (v := ?_) rfl (by kernel_rfl) (by kernel_rfl) (by kernel_rfl) (fun _ _ _ h => h) (Or.inl ⟨by rfl, ?_⟩) (by assumption) ?_; rotate_left
            · intro W hW; (try dsimp only at hW); go_simp;  try (with_reducible rfl)
            try simp only [Act.put, List.setIfInBounds_toArray, List.set_cons_zero, List.set_cons_succ]
            refine wpAnyH_take (i := 29) (oi := { dst := some 100, op := Op.pick (Operand.tmp 96) (Operand.const (Value.bool true)) (Operand.tmp 99), type := 4, pos := "laws.go:366", after := #[{ on := 25, ground := Ground.data }, { on := 28, ground := Ground.data }, { on := 20, ground := Ground.guard }], guard := some (20, true) }) (v := ?_) rfl (by kernel_rfl) (by kernel_rfl) (by kernel_rfl) (fun _ _ _ h => h) (Or.inl ⟨by rfl, ?_⟩) (by assumption) ?_; rotate_left
            · intro W hW; (try dsimp only at hW); go_simp;  try (with_reducible rfl)
            try simp only [Act.put, List.setIfInBounds_toArray, List.set_cons_zero, List.set_cons_succ]
            refine wpAnyH_take (i := 30) (oi := { dst := some 101, op := Op.pick (Operand.tmp 91) (Operand.tmp 100) (Operand.const (Value.bool false)), type := 4, pos := "laws.go:366", after := #[{ on := 20, ground := Ground.data }, { on := 29, ground := Ground.data }], guard := none }) (v := ?_) rfl (by kernel_rfl) (by kernel_rfl) (by kernel_rfl) (fun _ _ _ h => h) (Or.inl ⟨by rfl, ?_⟩) (by assumption) ?_; rotate_left
            · intro W hW; (try dsimp only at hW); go_simp;  try (with_reducible rfl)
            try simp only [Act.put, List.setIfInBounds_toArray, List.set_cons_zero, List.set_cons_succ]
            refine wpAnyH_take (i := 31) (oi := { dst := some 2, op := Op.assign (Operand.tmp 101), type := 4, pos := "laws.go:366", after := #[{ on := 30, ground := Ground.data }, { on := 25, ground := Ground.chain }, { on := 0, ground := Ground.phase }, { on := 1, ground := Ground.phase }, { on := 2, ground := Ground.phase }, { on := 3, ground := Ground.phase }, { on := 4, ground := Ground.phase }, { on := 5, ground := Ground.phase }, { on := 6, ground := Ground.phase }, { on := 7, ground := Ground.phase }, { on := 8, ground := Ground.phase }, { on := 9, ground := Ground.phase }, { on := 10, ground := Ground.phase }, { on := 11, ground := Ground.phase }, { on := 12, ground := Ground.phase }, { on := 13, ground := Ground.phase }, { on := 14, ground := Ground.phase }, { on := 15, ground := Ground.phase }, { on := 16, ground := Ground.phase }, { on := 17, ground := Ground.phase }, { on := 18, ground := Ground.phase }, { on := 19, ground := Ground.phase }, { on := 20, ground := Ground.phase }, { on := 21, ground := Ground.phase }, { on := 22, ground := Ground.phase }, { on := 23, ground := Ground.phase }, { on := 24, ground := Ground.phase }, { on := 25, ground := Ground.phase }, { on := 26, ground := Ground.phase }, { on := 27, ground := Ground.phase }, { on := 28, ground := Ground.phase }, { on := 29, ground := Ground.phase }, { on := 30, ground := Ground.phase }], guard := none }) (v := ?_) rfl (by kernel_rfl) (by kernel_rfl) (by kernel_rfl) (fun _ _ _ h => h) (Or.inl ⟨by rfl, ?_⟩) (by assumption) ?_; rotate_left
            · intro W hW; (try dsimp only at hW); go_simp;  try (with_reducible rfl)
            try simp only [Act.put, List.setIfInBounds_toArray, List.set_cons_zero, List.set_cons_succ]
            refine wpAnyH_done (by kernel_rfl) ?_ _
            have hE := hHeld.1
            clear hHeld s0
            have s12 : y2.heap.size ≤ z3.heap.size := Below.size hE
            have B12 := below_next (Nat.le_refl _) B11 hE
            have Kb12 := Kb11.below hE Kb11.lt
            have Xb12 := Xb11.below hE Xb11.lt
            have Wb12 := Wb11.below hE Wb11.lt
            have P12 := P11.below hE
            have X_12 := X_11.below hE
            have W_12 := W_11.below hE
            clear B11 Kb11 Xb11 Wb11 P11 X_11 W_11 hE
            go_wp2_with fail
            go_ret
            exact ⟨rfl, B12⟩
          · skip
            have e9 : (t2 != Sx.two l + 2 + (ps.length : Int)) = true := by rw [bne_iff_ne]; exact hnx
            clear hnx
            have Kbc0 : y2.cell? ⟨w1.heap.size, 0, none⟩ = some (.int .i64 o) := Kb11.cell 0
            have Kbc1 : y2.cell? ⟨w1.heap.size, 1, none⟩ = some (.int .i64 l) := Kb11.cell 1
            have Kbc2 : y2.cell? ⟨w1.heap.size, 2, none⟩ = some (.int .i64 m) := Kb11.cell 2
            have Kbc3 : y2.cell? ⟨w1.heap.size, 3, none⟩ = some (.slice A2 ps.length c2) := Kb11.cell 3
            have Kbc4 : y2.cell? ⟨w1.heap.size, 4, none⟩ = some (.int .i64 b) := Kb11.cell 4
            have Kbc5 : y2.cell? ⟨w1.heap.size, 5, none⟩ = some (.int .i64 t) := Kb11.cell 5
            have Xbc0 : y2.cell? ⟨w2.heap.size, 0, none⟩ = some (.int .i64 o) := Xb11.cell 0
            have Xbc1 : y2.cell? ⟨w2.heap.size, 1, none⟩ = some (.int .i64 l) := Xb11.cell 1
            have Xbc2 : y2.cell? ⟨w2.heap.size, 2, none⟩ = some (.int .i64 m) := Xb11.cell 2
            have Xbc3 : y2.cell? ⟨w2.heap.size, 3, none⟩ = some (.slice A3 Qs.length c3) := Xb11.cell 3
            have Xbc4 : y2.cell? ⟨w2.heap.size, 4, none⟩ = some (.int .i64 b) := Xb11.cell 4
            have Xbc5 : y2.cell? ⟨w2.heap.size, 5, none⟩ = some (.int .i64 t2) := Xb11.cell 5
            go_wp2_with fail
            have s0 : Below y2.heap.size y2 y2.drew ∧ y2.drew.cell? ⟨w1.heap.size, 0, none⟩ = some (.int .i64 o) ∧ y2.drew.cell? ⟨w1.heap.size, 1, none⟩ = some (.int .i64 l) ∧ y2.drew.cell? ⟨w1.heap.size, 2, none⟩ = some (.int .i64 m) ∧ y2.drew.cell? ⟨w1.heap.size, 3, none⟩ = some (.slice A2 ps.length c2) ∧ y2.drew.cell? ⟨w1.heap.size, 4, none⟩ = some (.int .i64 b) ∧ y2.drew.cell? ⟨w1.heap.size, 5, none⟩ = some (.int .i64 t) ∧ y2.drew.cell? ⟨w2.heap.size, 0, none⟩ = some (.int .i64 o) ∧ y2.drew.cell? ⟨w2.heap.size, 1, none⟩ = some (.int .i64 l) ∧ y2.drew.cell? ⟨w2.heap.size, 2, none⟩ = some (.int .i64 m) ∧ y2.drew.cell? ⟨w2.heap.size, 3, none⟩ = some (.slice A3 Qs.length c3) ∧ y2.drew.cell? ⟨w2.heap.size, 4, none⟩ = some (.int .i64 b) ∧ y2.drew.cell? ⟨w2.heap.size, 5, none⟩ = some (.int .i64 t2) := ⟨(Below.refl _ _).drew, Kb11.cell 0, Kb11.cell 1, Kb11.cell 2, Kb11.cell 3, Kb11.cell 4, Kb11.cell 5, Xb11.cell 0, Xb11.cell 1, Xb11.cell 2, Xb11.cell 3, Xb11.cell 4, Xb11.cell 5⟩
            clear Kbc0 Kbc1 Kbc2 Kbc3 Kbc4 Kbc5 Xbc0 Xbc1 Xbc2 Xbc3 Xbc4 Xbc5
            refine wp_region_held_drew (S := (fun W => Below y2.heap.size y2 W ∧ W.cell? ⟨w1.heap.size, 0, none⟩ = some (.int .i64 o) ∧ W.cell? ⟨w1.heap.size, 1, none⟩ = some (.int .i64 l) ∧ W.cell? ⟨w1.heap.size, 2, none⟩ = some (.int .i64 m) ∧ W.cell? ⟨w1.heap.size, 3, none⟩ = some (.slice A2 ps.length c2) ∧ W.cell? ⟨w1.heap.size, 4, none⟩ = some (.int .i64 b) ∧ W.cell? ⟨w1.heap.size, 5, none⟩ = some (.int .i64 t) ∧ W.cell? ⟨w2.heap.size, 0, none⟩ = some (.int .i64 o) ∧ W.cell? ⟨w2.heap.size, 1, none⟩ = some (.int .i64 l) ∧ W.cell? ⟨w2.heap.size, 2, none⟩ = some (.int .i64 m) ∧ W.cell? ⟨w2.heap.size, 3, none⟩ = some (.slice A3 Qs.length c3) ∧ W.cell? ⟨w2.heap.size, 4, none⟩ = some (.int .i64 b) ∧ W.cell? ⟨w2.heap.size, 5, none⟩ = some (.int .i64 t2))) (by kernel_rfl) (by first | assumption | exact s0 | exact keep12 (by assumption) (by assumption)) (fun hHeld => ?_)
            refine wpAnyH_take (i := 0) (oi := { dst := some 71, op := Op.move (Operand.tmp 9), type := 9, pos := "laws.go:366", after := #[], guard := none }) (v := ?_) rfl (by kernel_rfl) (by kernel_rfl) (by kernel_rfl) (fun _ _ _ h => h) (Or.inl ⟨by rfl, ?_⟩) (by assumption) ?_; rotate_left
            · intro W hW; (try dsimp only at hW); go_simp;  try (with_reducible rfl)
            try simp only [Act.put, List.setIfInBounds_toArray, List.set_cons_zero, List.set_cons_succ]
            refine wpAnyH_take (i := 1) (oi := { dst := some 72, op := Op.binOp BinOp.neq 9 (Operand.tmp 71) (Operand.const (Value.string { data := #[] })) 9, type := 4, pos := "laws.go:366", after := #[{ on := 0, ground := Ground.data }], guard := none }) (v := ?_) rfl (by kernel_rfl) (by kernel_rfl) (by kernel_rfl) (fun _ _ _ h => h) (Or.inl ⟨by rfl, ?_⟩) (by assumption) ?_; rotate_left
            · intro W hW; (try dsimp only at hW); go_simp;  try (with_reducible rfl)
            try simp only [Act.put, List.setIfInBounds_toArray, List.set_cons_zero, List.set_cons_succ]
            refine wpAnyH_take (i := 2) (oi := { dst := some 73, op := Op.move (Operand.tmp 72), type := 4, pos := "laws.go:366", after := #[{ on := 1, ground := Ground.data }], guard := none }) (v := ?_) rfl (by kernel_rfl) (by kernel_rfl) (by kernel_rfl) (fun _ _ _ h => h) (Or.inl ⟨by rfl, ?_⟩) (by assumption) ?_; rotate_left
            · intro W hW; (try dsimp only at hW); go_simp;  try (with_reducible rfl)
            try simp only [Act.put, List.setIfInBounds_toArray, List.set_cons_zero, List.set_cons_succ]
            refine wpAnyH_take (i := 3) (oi := { dst := some 74, op := Op.move (Operand.tmp 10), type := 9, pos := "laws.go:366", after := #[{ on := 2, ground := Ground.guard }], guard := some (2, true) }) (v := ?_) rfl (by kernel_rfl) (by kernel_rfl) (by kernel_rfl) (fun _ _ _ h => h) (Or.inl ⟨by rfl, ?_⟩) (by assumption) ?_; rotate_left
            · intro W hW; (try dsimp only at hW); go_simp;  try (with_reducible rfl)
            try simp only [Act.put, List.setIfInBounds_toArray, List.set_cons_zero, List.set_cons_succ]
            refine wpAnyH_take (i := 4) (oi := { dst := some 75, op := Op.load 31 (Operand.tmp 3), type := 31, pos := "laws.go:366", after := #[{ on := 2, ground := Ground.guard }], guard := some (2, true) }) (v := ?_) rfl (by kernel_rfl) (by kernel_rfl) (by kernel_rfl) (fun _ _ _ h => h) (Or.inl ⟨by rfl, ?_⟩) (by assumption) ?_; rotate_left
            · intro W hW; (try dsimp only at hW); go_simp;  try (with_reducible rfl)
            try simp only [Act.put, List.setIfInBounds_toArray, List.set_cons_zero, List.set_cons_succ]
            refine wpAnyH_take (i := 5) (oi := { dst := some 76, op := Op.fieldAddr 31 (Operand.tmp 3) 3, type := 0, pos := "laws.go:366", after := #[{ on := 2, ground := Ground.guard }], guard := some (2, true) }) (v := ?_) rfl (by kernel_rfl) (by kernel_rfl) (by kernel_rfl) (fun _ _ _ h => h) (Or.inl ⟨by rfl, ?_⟩) (by assumption) ?_; rotate_left
            · intro W hW; (try dsimp only at hW); go_simp;  try (with_reducible rfl)
            try simp only [Act.put, List.setIfInBounds_toArray, List.set_cons_zero, List.set_cons_succ]
            refine wpAnyH_take (i := 6) (oi := { dst := some 77, op := Op.load 3 (Operand.tmp 76), type := 3, pos := "laws.go:366", after := #[{ on := 5, ground := Ground.data }, { on := 2, ground := Ground.guard }], guard := some (2, true) }) (v := ?_) rfl (by kernel_rfl) (by kernel_rfl) (by kernel_rfl) (fun _ _ _ h => h) (Or.inl ⟨by rfl, ?_⟩) (by assumption) ?_; rotate_left
            · intro W hW; (try dsimp only at hW); go_simp;  try (with_reducible rfl)
            try simp only [Act.put, List.setIfInBounds_toArray, List.set_cons_zero, List.set_cons_succ]
            refine wpAnyH_take (i := 8) (oi := { dst := some 79, op := Op.move (Operand.tmp 9), type := 9, pos := "laws.go:366", after := #[{ on := 2, ground := Ground.guard }], guard := some (2, true) }) (v := ?_) rfl (by kernel_rfl) (by kernel_rfl) (by kernel_rfl) (fun _ _ _ h => h) (Or.inl ⟨by rfl, ?_⟩) (by assumption) ?_; rotate_left
            · intro W hW; (try dsimp only at hW); go_simp;  try (with_reducible rfl)
            try simp only [Act.put, List.setIfInBounds_toArray, List.set_cons_zero, List.set_cons_succ]
            refine wpAnyH_take (i := 9) (oi := { dst := some 80, op := Op.slice 9 (Operand.tmp 79) none (some (Operand.const (Value.int IntKind.i64 1))) none, type := 9, pos := "laws.go:366", after := #[{ on := 8, ground := Ground.data }, { on := 2, ground := Ground.guard }], guard := some (2, true) }) (v := ?_) rfl (by kernel_rfl) (by kernel_rfl) (by kernel_rfl) (fun _ _ _ h => h) (Or.inl ⟨by rfl, ?_⟩) (by assumption) ?_; rotate_left
            · intro W hW; (try dsimp only at hW); go_simp;  try (with_reducible rfl)
            try simp only [Act.put, List.setIfInBounds_toArray, List.set_cons_zero, List.set_cons_succ]
            refine wpAnyH_ready (rs := [7]) (by kernel_rfl) (by simp) (AllReadyH.cons (i := 7) (o := { dst := some 78, op := Op.call { callee := Callee.value (Operand.func 33), args := #[Operand.tmp 75, Operand.tmp 77], argTypes := #[31, 3] }, type := 9, pos := "laws.go:366", after := #[{ on := 4, ground := Ground.data }, { on := 6, ground := Ground.data }, { on := 2, ground := Ground.chain }, { on := 2, ground := Ground.guard }], guard := some (2, true) }) rfl (fun K hK => ?_) AllReadyH.nil)
            go_simp
            refine ((unhide C2) _ ((P11.below hHeld.1).pr (Nat.le_refl _))).mono ?_; rintro e z1 ⟨rfl, hb⟩
            try go_wp2_with fail
            refine hK.out _ _ (by (try dsimp only); first | assumption | exact s0 | exact keep12 (by assumption) (by assumption)) (fun hHeld => ?_)
            clear hK K
            try simp only [Act.put, List.setIfInBounds_toArray, List.set_cons_zero, List.set_cons_succ]
            refine wpAnyH_take (i := 10) (oi := { dst := some 81, op := Op.binOp BinOp.add 9 (Operand.tmp 78) (Operand.tmp 80) 9, type := 9, pos := "laws.go:366", after := #[{ on := 7, ground := Ground.data }, { on := 9, ground := Ground.data }, { on := 2, ground := Ground.guard }], guard := some (2, true) }) (v := ?_) rfl (by kernel_rfl) (by kernel_rfl) (by kernel_rfl) (fun _ _ _ h => h) (Or.inl ⟨by rfl, ?_⟩) (by assumption) ?_; rotate_left
            · intro W hW; (try dsimp only at hW); go_simp;  try (with_reducible rfl)
            try simp only [Act.put, List.setIfInBounds_toArray, List.set_cons_zero, List.set_cons_succ]
            refine wpAnyH_take (i := 11) (oi := { dst := some 82, op := Op.binOp BinOp.eql 9 (Operand.tmp 74) (Operand.tmp 81) 9, type := 4, pos := "laws.go:366", after := #[{ on := 3, ground := Ground.data }, { on := 10, ground := Ground.data }, { on := 2, ground := Ground.guard }], guard := some (2, true) }) (v := ?_) rfl (by kernel_rfl) (by kernel_rfl) (by kernel_rfl) (fun _ _ _ h => h) (Or.inl ⟨by rfl, ?_⟩) (by assumption) ?_; rotate_left
            · intro W hW; (try dsimp only at hW); go_simp;  try (with_reducible rfl)
            try simp only [Act.put, List.setIfInBounds_toArray, List.set_cons_zero, List.set_cons_succ]
            refine wpAnyH_take (i := 12) (oi := { dst := some 83, op := Op.pick (Operand.tmp 73) (Operand.tmp 82) (Operand.const (Value.bool false)), type := 4, pos := "laws.go:366", after := #[{ on := 2, ground := Ground.data }, { on := 11, ground := Ground.data }], guard := none }) (v := ?_) rfl (by kernel_rfl) (by kernel_rfl) (by kernel_rfl) (fun _ _ _ h => h) (Or.inl ⟨by rfl, ?_⟩) (by assumption) ?_; rotate_left
            · intro W hW; (try dsimp only at hW); go_simp;  try (with_reducible rfl)
            try simp only [Act.put, List.setIfInBounds_toArray, List.set_cons_zero, List.set_cons_succ]
            refine wpAnyH_take (i := 13) (oi := { dst := some 84, op := Op.move (Operand.tmp 83), type := 4, pos := "laws.go:366", after := #[{ on := 12, ground := Ground.data }, { on := 7, ground := Ground.chain }], guard := none }) (v := ?_) rfl (by kernel_rfl) (by kernel_rfl) (by kernel_rfl) (fun _ _ _ h => h) (Or.inl ⟨by rfl, ?_⟩) (by assumption) ?_; rotate_left
            · intro W hW; (try dsimp only at hW); go_simp;  try (with_reducible rfl)
            try simp only [Act.put, List.setIfInBounds_toArray, List.set_cons_zero, List.set_cons_succ]
            refine wpAnyH_take (i := 14) (oi := { dst := some 85, op := Op.load 31 (Operand.tmp 5), type := 31, pos := "laws.go:366", after := #[{ on := 13, ground := Ground.guard }], guard := some (13, true) }) (v := ?_) rfl (by kernel_rfl) (by kernel_rfl) (by kernel_rfl) (fun _ _ _ h => h) (Or.inl ⟨by rfl, ?_⟩) (by assumption) ?_; rotate_left
            · intro W hW; (try dsimp only at hW); go_simp;  try (with_reducible rfl)
            try simp only [Act.put, List.setIfInBounds_toArray, List.set_cons_zero, List.set_cons_succ]
            refine wpAnyH_take (i := 15) (oi := { dst := some 86, op := Op.move (Operand.tmp 4), type := 3, pos := "laws.go:366", after := #[{ on := 13, ground := Ground.guard }], guard := some (13, true) }) (v := ?_) rfl (by kernel_rfl) (by kernel_rfl) (by kernel_rfl) (fun _ _ _ h => h) (Or.inl ⟨by rfl, ?_⟩) (by assumption) ?_; rotate_left
            · intro W hW; (try dsimp only at hW); go_simp;  try (with_reducible rfl)
            try simp only [Act.put, List.setIfInBounds_toArray, List.set_cons_zero, List.set_cons_succ]
            refine wpAnyH_take (i := 17) (oi := { dst := some 88, op := Op.move (Operand.tmp 9), type := 9, pos := "laws.go:366", after := #[{ on := 13, ground := Ground.guard }], guard := some (13, true) }) (v := ?_) rfl (by kernel_rfl) (by kernel_rfl) (by kernel_rfl) (fun _ _ _ h => h) (Or.inl ⟨by rfl, ?_⟩) (by assumption) ?_; rotate_left
            · intro W hW; (try dsimp only at hW); go_simp;  try (with_reducible rfl)
            try simp only [Act.put, List.setIfInBounds_toArray, List.set_cons_zero, List.set_cons_succ]
            refine wpAnyH_ready (rs := [16]) (by kernel_rfl) (by simp) (AllReadyH.cons (i := 16) (o := { dst := some 87, op := Op.call { callee := Callee.value (Operand.func 33), args := #[Operand.tmp 85, Operand.tmp 86], argTypes := #[31, 3] }, type := 9, pos := "laws.go:366", after := #[{ on := 14, ground := Ground.data }, { on := 15, ground := Ground.data }, { on := 13, ground := Ground.chain }, { on := 13, ground := Ground.guard }], guard := some (13, true) }) rfl (fun K hK => ?_) AllReadyH.nil)
            go_simp
            refine ((unhide C4) _ _ _ ((X_11.below hHeld.1).pr (Nat.le_refl _))).mono ?_; rintro e z2 ⟨rfl, hb⟩
            try go_wp2_with fail
            refine hK.out _ _ (by (try dsimp only); first | assumption | exact s0 | exact keep12 (by assumption) (by assumption)) (fun hHeld => ?_)
            clear hK K
            try simp only [Act.put, List.setIfInBounds_toArray, List.set_cons_zero, List.set_cons_succ]
            refine wpAnyH_take (i := 18) (oi := { dst := some 89, op := Op.binOp BinOp.eql 9 (Operand.tmp 87) (Operand.tmp 88) 9, type := 4, pos := "laws.go:366", after := #[{ on := 16, ground := Ground.data }, { on := 17, ground := Ground.data }, { on := 13, ground := Ground.guard }], guard := some (13, true) }) (v := ?_) rfl (by kernel_rfl) (by kernel_rfl) (by kernel_rfl) (fun _ _ _ h => h) (Or.inl ⟨by rfl, ?_⟩) (by assumption) ?_; rotate_left
            · intro W hW; (try dsimp only at hW); go_simp;  try (with_reducible rfl)
            try simp only [Act.put, List.setIfInBounds_toArray, List.set_cons_zero, List.set_cons_succ]
            refine wpAnyH_take (i := 19) (oi := { dst := some 90, op := Op.pick (Operand.tmp 84) (Operand.tmp 89) (Operand.const (Value.bool false)), type := 4, pos := "laws.go:366", after := #[{ on := 13, ground := Ground.data }, { on := 18, ground := Ground.data }], guard := none }) (v := ?_) rfl (by kernel_rfl) (by kernel_rfl) (by kernel_rfl) (fun _ _ _ h => h) (Or.inl ⟨by rfl, ?_⟩) (by assumption) ?_; rotate_left
            · intro W hW; (try dsimp only at hW); go_simp;  try (with_reducible rfl)
            try simp only [Act.put, List.setIfInBounds_toArray, List.set_cons_zero, List.set_cons_succ]
            refine wpAnyH_take (i := 20) (oi := { dst := some 91, op := Op.move (Operand.tmp 90), type := 4, pos := "laws.go:366", after := #[{ on := 19, ground := Ground.data }, { on := 16, ground := Ground.chain }], guard := none }) (v := ?_) rfl (by kernel_rfl) (by kernel_rfl) (by kernel_rfl) (fun _ _ _ h => h) (Or.inl ⟨by rfl, ?_⟩) (by assumption) ?_; rotate_left
            · intro W hW; (try dsimp only at hW); go_simp;  try (with_reducible rfl)
            try simp only [Act.put, List.setIfInBounds_toArray, List.set_cons_zero, List.set_cons_succ]
            refine wpAnyH_take (i := 21) (oi := { dst := some 92, op := Op.move (Operand.tmp 4), type := 3, pos := "laws.go:366", after := #[{ on := 20, ground := Ground.guard }], guard := some (20, true) }) (v := ?_) rfl (by kernel_rfl) (by kernel_rfl) (by kernel_rfl) (fun _ _ _ h => h) (Or.inl ⟨by rfl, ?_⟩) (by assumption) ?_; rotate_left
            · intro W hW; (try dsimp only at hW); go_simp;  try (with_reducible rfl)
            try simp only [Act.put, List.setIfInBounds_toArray, List.set_cons_zero, List.set_cons_succ]
            refine wpAnyH_take (i := 22) (oi := { dst := some 93, op := Op.load 31 (Operand.tmp 3), type := 31, pos := "laws.go:366", after := #[{ on := 20, ground := Ground.guard }], guard := some (20, true) }) (v := ?_) rfl (by kernel_rfl) (by kernel_rfl) (by kernel_rfl) (fun _ _ _ h => h) (Or.inl ⟨by rfl, ?_⟩) (by assumption) ?_; rotate_left
            · intro W hW; (try dsimp only at hW); go_simp;  try (with_reducible rfl)
            try simp only [Act.put, List.setIfInBounds_toArray, List.set_cons_zero, List.set_cons_succ]
            refine wpAnyH_ready (rs := [23]) (by kernel_rfl) (by simp) (AllReadyH.cons (i := 23) (o := { dst := some 94, op := Op.call { callee := Callee.value (Operand.func 41), args := #[Operand.tmp 93], argTypes := #[31] }, type := 3, pos := "laws.go:366", after := #[{ on := 22, ground := Ground.data }, { on := 20, ground := Ground.chain }, { on := 20, ground := Ground.guard }], guard := some (20, true) }) rfl (fun K hK => ?_) AllReadyH.nil)
            go_simp
            refine ((unhide CN) _ ((P11.below hHeld.1).pr (Nat.le_refl _))).mono ?_; rintro e z3 ⟨rfl, hb⟩
            try go_wp2_with fail
            refine hK.out _ _ (by (try dsimp only); first | assumption | exact s0 | exact keep12 (by assumption) (by assumption)) (fun hHeld => ?_)
            clear hK K
            try simp only [Act.put, List.setIfInBounds_toArray, List.set_cons_zero, List.set_cons_succ]
            refine wpAnyH_take (i := 24) (oi := { dst := some 95, op := Op.binOp BinOp.neq 3 (Operand.tmp 92) (Operand.tmp 94) 3, type := 4, pos := "laws.go:366", after := #[{ on := 21, ground := Ground.data }, { on := 23, ground := Ground.data }, { on := 20, ground := Ground.guard }], guard := some (20, true) }) (v := ?_) rfl (by kernel_rfl) (by kernel_rfl) (by kernel_rfl) (fun _ _ _ h => h) (Or.inl ⟨by rfl, ?_⟩) (by assumption) ?_; rotate_left
            · intro W hW; (try dsimp only at hW); go_simp;  try (with_reducible rfl)
            try simp only [Act.put, List.setIfInBounds_toArray, List.set_cons_zero, List.set_cons_succ]
            refine wpAnyH_take (i := 25) (oi := { dst := some 96, op := Op.move (Operand.tmp 95), type := 4, pos := "laws.go:366", after := #[{ on := 24, ground := Ground.data }, { on := 23, ground := Ground.chain }, { on := 20, ground := Ground.guard }], guard := some (20, true) }) (v := ?_) rfl (by kernel_rfl) (by kernel_rfl) (by kernel_rfl) (fun _ _ _ h => h) (Or.inl ⟨by rfl, ?_⟩) (by assumption) ?_; rotate_left
            · intro W hW; (try dsimp only at hW); go_simp;  try (with_reducible rfl)
            try simp only [Act.put, List.setIfInBounds_toArray, List.set_cons_zero, List.set_cons_succ]
            refine wpAnyH_take (i := 26) (oi := { dst := some 97, op := Op.move (Operand.tmp 10), type := 9, pos := "laws.go:366", after := #[{ on := 25, ground := Ground.guard }], guard := some (25, false) }) rfl (by kernel_rfl) (by kernel_rfl) (by kernel_rfl) (fun _ _ _ h => h) (Or.inr ⟨by rfl, rfl⟩) (by assumption) ?_
            try simp only [Act.put, List.setIfInBounds_toArray, List.set_cons_zero, List.set_cons_succ]
            refine wpAnyH_take (i := 27) (oi := { dst := some 98, op := Op.move (Operand.tmp 9), type := 9, pos := "laws.go:366", after := #[{ on := 25, ground := Ground.guard }], guard := some (25, false) }) rfl (by kernel_rfl) (by kernel_rfl) (by kernel_rfl) (fun _ _ _ h => h) (Or.inr ⟨by rfl, rfl⟩) (by assumption) ?_
            try simp only [Act.put, List.setIfInBounds_toArray, List.set_cons_zero, List.set_cons_succ]
            refine wpAnyH_take (i := 28) (oi := { dst := some 99, op := Op.binOp BinOp.eql 9 (Operand.tmp 97) (Operand.tmp 98) 9, type := 4, pos := "laws.go:366", after := #[{ on := 26, ground := Ground.data }, { on := 27, ground := Ground.data }, { on := 25, ground := Ground.guard }], guard := some (25, false) }) rfl (by kernel_rfl) (by kernel_rfl) (by kernel_rfl) (fun _ _ _ h => h) (Or.inr ⟨by rfl, rfl⟩) (by assumption) ?_
            try simp only [Act.put, List.setIfInBounds_toArray, List.set_cons_zero, List.set_cons_succ]
            refine wpAnyH_take (i := 29) (oi := { dst := some 100, op := Op.pick (Operand.tmp 96) (Operand.const (Value.bool true)) (Operand.tmp 99), type := 4, pos := "laws.go:366", after := #[{ on := 25, ground := Ground.data }, { on := 28, ground := Ground.data }, { on := 20, ground := Ground.guard }], guard := some (20, true) }) (v := ?_) rfl (by kernel_rfl) (by kernel_rfl) (by kernel_rfl) (fun _ _ _ h => h) (Or.inl ⟨by rfl, ?_⟩) (by assumption) ?_; rotate_left
            · intro W hW; (try dsimp only at hW); go_simp;  try (with_reducible rfl)
            try simp only [Act.put, List.setIfInBounds_toArray, List.set_cons_zero, List.set_cons_succ]
            refine wpAnyH_take (i := 30) (oi := { dst := some 101, op := Op.pick (Operand.tmp 91) (Operand.tmp 100) (Operand.const (Value.bool false)), type := 4, pos := "laws.go:366", after := #[{ on := 20, ground := Ground.data }, { on := 29, ground := Ground.data }], guard := none }) (v := ?_) rfl (by kernel_rfl) (by kernel_rfl) (by kernel_rfl) (fun _ _ _ h => h) (Or.inl ⟨by rfl, ?_⟩) (by assumption) ?_; rotate_left
            · intro W hW; (try dsimp only at hW); go_simp;  try (with_reducible rfl)
            try simp only [Act.put, List.setIfInBounds_toArray, List.set_cons_zero, List.set_cons_succ]
            refine wpAnyH_take (i := 31) (oi := { dst := some 2, op := Op.assign (Operand.tmp 101), type := 4, pos := "laws.go:366", after := #[{ on := 30, ground := Ground.data }, { on := 25, ground := Ground.chain }, { on := 0, ground := Ground.phase }, { on := 1, ground := Ground.phase }, { on := 2, ground := Ground.phase }, { on := 3, ground := Ground.phase }, { on := 4, ground := Ground.phase }, { on := 5, ground := Ground.phase }, { on := 6, ground := Ground.phase }, { on := 7, ground := Ground.phase }, { on := 8, ground := Ground.phase }, { on := 9, ground := Ground.phase }, { on := 10, ground := Ground.phase }, { on := 11, ground := Ground.phase }, { on := 12, ground := Ground.phase }, { on := 13, ground := Ground.phase }, { on := 14, ground := Ground.phase }, { on := 15, ground := Ground.phase }, { on := 16, ground := Ground.phase }, { on := 17, ground := Ground.phase }, { on := 18, ground := Ground.phase }, { on := 19, ground := Ground.phase }, { on := 20, ground := Ground.phase }, { on := 21, ground := Ground.phase }, { on := 22, ground := Ground.phase }, { on := 23, ground := Ground.phase }, { on := 24, ground := Ground.phase }, { on := 25, ground := Ground.phase }, { on := 26, ground := Ground.phase }, { on := 27, ground := Ground.phase }, { on := 28, ground := Ground.phase }, { on := 29, ground := Ground.phase }, { on := 30, ground := Ground.phase }], guard := none }) (v := ?_) rfl (by kernel_rfl) (by kernel_rfl) (by kernel_rfl) (fun _ _ _ h => h) (Or.inl ⟨by rfl, ?_⟩) (by assumption) ?_; rotate_left
            · intro W hW; (try dsimp only at hW); go_simp;  try (with_reducible rfl)
            try simp only [Act.put, List.setIfInBounds_toArray, List.set_cons_zero, List.set_cons_succ]
            refine wpAnyH_done (by kernel_rfl) ?_ _
            have hE := hHeld.1
            clear hHeld s0
            have s12 : y2.heap.size ≤ z3.heap.size := Below.size hE
            have B12 := below_next (Nat.le_refl _) B11 hE
            have Kb12 := Kb11.below hE Kb11.lt
            have Xb12 := Xb11.below hE Xb11.lt
            have Wb12 := Wb11.below hE Wb11.lt
            have P12 := P11.below hE
            have X_12 := X_11.below hE
            have W_12 := W_11.below hE
            clear B11 Kb11 Xb11 Wb11 P11 X_11 W_11 hE
            go_wp2_with fail
            go_ret
            exact ⟨rfl, B12⟩
  · have B0 : Below w.heap.size w w := Below.refl _ _
    have hnI : (1048576 : Int) < (n : Int) := by omega
    go_enter Try.func13, Try.ntmps13
    go_wp2_with fail
    go_ret
    exact ⟨rfl, B0⟩

end Go.Proofs.Ytegfcpdkehgdpaa

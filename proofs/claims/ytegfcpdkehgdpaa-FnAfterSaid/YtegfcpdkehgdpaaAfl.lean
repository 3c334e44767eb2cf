/- The walk of FnAfter. Conditions: a slice of bytes. -/
import Derived.Test.YtegfcpdkehgdpaaAwp
namespace Go.Proofs.Ytegfcpdkehgdpaa
open Go.RowKit

theorem Sx.clear_step {o l m b t x : Int} {ps : List (Int × Int)} (hk : Sx.kOK o l m ps b t = true) (hx : x = Sx.two l) :
    Sx.advT l x = -1 ∧ ((Sx.stepP l m ps b t x).length : Int) = b ∧ Sx.growsB l m (Sx.stepP l m ps b t x).length (-1) = false ∧ Sx.stepP l m (Sx.stepP l m ps b t x) b (-1) x = Sx.stepP l m ps b t x := by
  have hb := (Sx.kOK_of hk).2.2.1
  have h1 : Sx.stepP l m ps b t x = ps.take b.toNat := (Sx.adv_clear hx).1
  have h2 : Sx.stepP l m (ps.take b.toNat) b (-1) x = (ps.take b.toNat).take b.toNat := (Sx.adv_clear hx).1
  refine ⟨if_pos hx, ?_, Sx.grows_neg (by omega), ?_⟩
  · rw [h1, List.length_take]; omega
  · rw [h1, h2, List.take_take, Nat.min_self]
theorem Sx.word_step' {l m b t x : Int} {ps : List (Int × Int)} (hc : Sx.canB l m ps.length t x = true) : Sx.advT l x = x ∧ ∃ more : List (Int × Int), Sx.stepP l m ps b t x = ps ++ more ∧ more.length = if Sx.growsB l m ps.length t = true then 1 else 0 := by
  have hx : x ≠ Sx.two l := by
    rintro rfl
    rw [Sx.can_mk] at hc; simp at hc
  refine ⟨if_neg hx, ?_⟩
  cases hg : Sx.growsB l m ps.length t
  · exact ⟨[], by rw [List.append_nil]; exact (Sx.adv_same hx hg).1, rfl⟩
  · exact ⟨[_], (Sx.adv_grow hx hg).1, rfl⟩

set_option maxRecDepth 100000 in
set_option maxHeartbeats 6000000 in
theorem law_FnAfter (A : Option Addr) (n c : Nat) (w : World) (h : Src w w.heap.size A n) (hc : n ≤ c) (hcm : c ≤ maxLen) :
    Calls Try.prog 12 #[.slice A n c] w fun e w' => e = .returned (.bool true) ∧ Below w.heap.size w w' := by
  by_cases hn : n ≤ 1048576
  · have HD := hide (draw_After A n c w h hn hc hcm)
    have B0 : Below w.heap.size w w := Below.refl _ _
    clear h
    go_enter Try.func12, Try.ntmps12
    go_wp2_with fail
    refine ((unhide HD)).mono ?_; rintro e w1 ⟨o, l, m, A2, c2, b, t, ps, x, rfl, hl, hcp, P0, hb⟩
    have s1 : w.heap.size ≤ w1.heap.size := Below.size hb
    have B1 := below_next (Nat.le_refl _) B0 hb
    clear B0 hb
    clear HD
    have P1 := OwnV.pairs P0
    clear P0
    have s2 : (w1.alloc (.cells #[.int .i64 o, .int .i64 l, .int .i64 m, .slice A2 ps.length c2, .int .i64 b, .int .i64 t] 31)).heap.size = w1.heap.size + 1 := World.size_alloc _ _
    have B2 := B1.alloc B1.size (.cells #[.int .i64 o, .int .i64 l, .int .i64 m, .slice A2 ps.length c2, .int .i64 b, .int .i64 t] 31)
    have P2 := P1.alloc (.cells #[.int .i64 o, .int .i64 l, .int .i64 m, .slice A2 ps.length c2, .int .i64 b, .int .i64 t] 31)
    have Kb2 := Blk.new w1 31 #[.int .i64 o, .int .i64 l, .int .i64 m, .slice A2 ps.length c2, .int .i64 b, .int .i64 t]
    clear B1 P1
    cases ha : Sx.aftOK o l m ps b t x
    · skip
      obtain ⟨CS, CI⟩ := after_none (by omega) ha
      have CS := hide CS
      have CI := hide CI
      clear ha
      have Kbc0 : (w1.alloc (.cells #[.int .i64 o, .int .i64 l, .int .i64 m, .slice A2 ps.length c2, .int .i64 b, .int .i64 t] 31)).cell? ⟨w1.heap.size, 0, none⟩ = some (.int .i64 o) := Kb2.cell 0
      have Kbc1 : (w1.alloc (.cells #[.int .i64 o, .int .i64 l, .int .i64 m, .slice A2 ps.length c2, .int .i64 b, .int .i64 t] 31)).cell? ⟨w1.heap.size, 1, none⟩ = some (.int .i64 l) := Kb2.cell 1
      have Kbc2 : (w1.alloc (.cells #[.int .i64 o, .int .i64 l, .int .i64 m, .slice A2 ps.length c2, .int .i64 b, .int .i64 t] 31)).cell? ⟨w1.heap.size, 2, none⟩ = some (.int .i64 m) := Kb2.cell 2
      have Kbc3 : (w1.alloc (.cells #[.int .i64 o, .int .i64 l, .int .i64 m, .slice A2 ps.length c2, .int .i64 b, .int .i64 t] 31)).cell? ⟨w1.heap.size, 3, none⟩ = some (.slice A2 ps.length c2) := Kb2.cell 3
      have Kbc4 : (w1.alloc (.cells #[.int .i64 o, .int .i64 l, .int .i64 m, .slice A2 ps.length c2, .int .i64 b, .int .i64 t] 31)).cell? ⟨w1.heap.size, 4, none⟩ = some (.int .i64 b) := Kb2.cell 4
      have Kbc5 : (w1.alloc (.cells #[.int .i64 o, .int .i64 l, .int .i64 m, .slice A2 ps.length c2, .int .i64 b, .int .i64 t] 31)).cell? ⟨w1.heap.size, 5, none⟩ = some (.int .i64 t) := Kb2.cell 5
      go_wp2_with fail
      refine ((unhide CI) _ _ _ (P2.pr (Nat.le_refl _)) hcp).mono ?_; rintro e w2 ⟨A3, c3, rfl, hb⟩
      have s3 : (w1.alloc (.cells #[.int .i64 o, .int .i64 l, .int .i64 m, .slice A2 ps.length c2, .int .i64 b, .int .i64 t] 31)).heap.size ≤ w2.heap.size := Below.size hb
      have B3 := below_next (Nat.le_refl _) B2 hb
      have Kb3 := Kb2.below hb Kb2.lt
      have P3 := P2.below hb
      clear B2 Kb2 P2 Kbc0 Kbc1 Kbc2 Kbc3 Kbc4 Kbc5 hb
      have s4 : (w2.alloc (.cells #[.int .i64 0, .int .i64 0, .int .i64 0, .slice A3 0 c3, .int .i64 0, .int .i64 0] 31)).heap.size = w2.heap.size + 1 := World.size_alloc _ _
      have B4 := B3.alloc B3.size (.cells #[.int .i64 0, .int .i64 0, .int .i64 0, .slice A3 0 c3, .int .i64 0, .int .i64 0] 31)
      have Kb4 := Kb3.alloc (.cells #[.int .i64 0, .int .i64 0, .int .i64 0, .slice A3 0 c3, .int .i64 0, .int .i64 0] 31)
      have P4 := P3.alloc (.cells #[.int .i64 0, .int .i64 0, .int .i64 0, .slice A3 0 c3, .int .i64 0, .int .i64 0] 31)
      have Xb4 := Blk.new w2 31 #[.int .i64 0, .int .i64 0, .int .i64 0, .slice A3 0 c3, .int .i64 0, .int .i64 0]
      clear B3 Kb3 P3
      have Kbc0 : (w2.alloc (.cells #[.int .i64 0, .int .i64 0, .int .i64 0, .slice A3 0 c3, .int .i64 0, .int .i64 0] 31)).cell? ⟨w1.heap.size, 0, none⟩ = some (.int .i64 o) := Kb4.cell 0
      have Kbc1 : (w2.alloc (.cells #[.int .i64 0, .int .i64 0, .int .i64 0, .slice A3 0 c3, .int .i64 0, .int .i64 0] 31)).cell? ⟨w1.heap.size, 1, none⟩ = some (.int .i64 l) := Kb4.cell 1
      have Kbc2 : (w2.alloc (.cells #[.int .i64 0, .int .i64 0, .int .i64 0, .slice A3 0 c3, .int .i64 0, .int .i64 0] 31)).cell? ⟨w1.heap.size, 2, none⟩ = some (.int .i64 m) := Kb4.cell 2
      have Kbc3 : (w2.alloc (.cells #[.int .i64 0, .int .i64 0, .int .i64 0, .slice A3 0 c3, .int .i64 0, .int .i64 0] 31)).cell? ⟨w1.heap.size, 3, none⟩ = some (.slice A2 ps.length c2) := Kb4.cell 3
      have Kbc4 : (w2.alloc (.cells #[.int .i64 0, .int .i64 0, .int .i64 0, .slice A3 0 c3, .int .i64 0, .int .i64 0] 31)).cell? ⟨w1.heap.size, 4, none⟩ = some (.int .i64 b) := Kb4.cell 4
      have Kbc5 : (w2.alloc (.cells #[.int .i64 0, .int .i64 0, .int .i64 0, .slice A3 0 c3, .int .i64 0, .int .i64 0] 31)).cell? ⟨w1.heap.size, 5, none⟩ = some (.int .i64 t) := Kb4.cell 5
      go_wp2_with fail
      refine ((unhide CS) _ _ _ (P4.pr (Nat.le_refl _)) hcp).mono ?_; rintro e w3 ⟨A4, c4, rfl, hb⟩
      have s5 : (w2.alloc (.cells #[.int .i64 0, .int .i64 0, .int .i64 0, .slice A3 0 c3, .int .i64 0, .int .i64 0] 31)).heap.size ≤ w3.heap.size := Below.size hb
      have B5 := below_next (Nat.le_refl _) B4 hb
      have Kb5 := Kb4.below hb Kb4.lt
      have Xb5 := Xb4.below hb Xb4.lt
      have P5 := P4.below hb
      clear B4 Kb4 Xb4 P4 Kbc0 Kbc1 Kbc2 Kbc3 Kbc4 Kbc5 hb
      have s6 : (w3.alloc (.cells #[.int .i64 0, .int .i64 0, .int .i64 0, .slice A4 0 c4, .int .i64 0, .int .i64 0] 31)).heap.size = w3.heap.size + 1 := World.size_alloc _ _
      have B6 := B5.alloc B5.size (.cells #[.int .i64 0, .int .i64 0, .int .i64 0, .slice A4 0 c4, .int .i64 0, .int .i64 0] 31)
      have Kb6 := Kb5.alloc (.cells #[.int .i64 0, .int .i64 0, .int .i64 0, .slice A4 0 c4, .int .i64 0, .int .i64 0] 31)
      have Xb6 := Xb5.alloc (.cells #[.int .i64 0, .int .i64 0, .int .i64 0, .slice A4 0 c4, .int .i64 0, .int .i64 0] 31)
      have P6 := P5.alloc (.cells #[.int .i64 0, .int .i64 0, .int .i64 0, .slice A4 0 c4, .int .i64 0, .int .i64 0] 31)
      have Wb6 := Blk.new w3 31 #[.int .i64 0, .int .i64 0, .int .i64 0, .slice A4 0 c4, .int .i64 0, .int .i64 0]
      clear B5 Kb5 Xb5 P5
      have Xbc0 : (w3.alloc (.cells #[.int .i64 0, .int .i64 0, .int .i64 0, .slice A4 0 c4, .int .i64 0, .int .i64 0] 31)).cell? ⟨w2.heap.size, 0, none⟩ = some (.int .i64 0) := Xb6.cell 0
      have Xbc1 : (w3.alloc (.cells #[.int .i64 0, .int .i64 0, .int .i64 0, .slice A4 0 c4, .int .i64 0, .int .i64 0] 31)).cell? ⟨w2.heap.size, 1, none⟩ = some (.int .i64 0) := Xb6.cell 1
      have Xbc2 : (w3.alloc (.cells #[.int .i64 0, .int .i64 0, .int .i64 0, .slice A4 0 c4, .int .i64 0, .int .i64 0] 31)).cell? ⟨w2.heap.size, 2, none⟩ = some (.int .i64 0) := Xb6.cell 2
      have Xbc3 : (w3.alloc (.cells #[.int .i64 0, .int .i64 0, .int .i64 0, .slice A4 0 c4, .int .i64 0, .int .i64 0] 31)).cell? ⟨w2.heap.size, 3, none⟩ = some (.slice A3 0 c3) := Xb6.cell 3
      have Xbc4 : (w3.alloc (.cells #[.int .i64 0, .int .i64 0, .int .i64 0, .slice A4 0 c4, .int .i64 0, .int .i64 0] 31)).cell? ⟨w2.heap.size, 4, none⟩ = some (.int .i64 0) := Xb6.cell 4
      have Xbc5 : (w3.alloc (.cells #[.int .i64 0, .int .i64 0, .int .i64 0, .slice A4 0 c4, .int .i64 0, .int .i64 0] 31)).cell? ⟨w2.heap.size, 5, none⟩ = some (.int .i64 0) := Xb6.cell 5
      have Wbc0 : (w3.alloc (.cells #[.int .i64 0, .int .i64 0, .int .i64 0, .slice A4 0 c4, .int .i64 0, .int .i64 0] 31)).cell? ⟨w3.heap.size, 0, none⟩ = some (.int .i64 0) := Wb6.cell 0
      have Wbc1 : (w3.alloc (.cells #[.int .i64 0, .int .i64 0, .int .i64 0, .slice A4 0 c4, .int .i64 0, .int .i64 0] 31)).cell? ⟨w3.heap.size, 1, none⟩ = some (.int .i64 0) := Wb6.cell 1
      have Wbc2 : (w3.alloc (.cells #[.int .i64 0, .int .i64 0, .int .i64 0, .slice A4 0 c4, .int .i64 0, .int .i64 0] 31)).cell? ⟨w3.heap.size, 2, none⟩ = some (.int .i64 0) := Wb6.cell 2
      have Wbc3 : (w3.alloc (.cells #[.int .i64 0, .int .i64 0, .int .i64 0, .slice A4 0 c4, .int .i64 0, .int .i64 0] 31)).cell? ⟨w3.heap.size, 3, none⟩ = some (.slice A4 0 c4) := Wb6.cell 3
      have Wbc4 : (w3.alloc (.cells #[.int .i64 0, .int .i64 0, .int .i64 0, .slice A4 0 c4, .int .i64 0, .int .i64 0] 31)).cell? ⟨w3.heap.size, 4, none⟩ = some (.int .i64 0) := Wb6.cell 4
      have Wbc5 : (w3.alloc (.cells #[.int .i64 0, .int .i64 0, .int .i64 0, .slice A4 0 c4, .int .i64 0, .int .i64 0] 31)).cell? ⟨w3.heap.size, 5, none⟩ = some (.int .i64 0) := Wb6.cell 5
      go_wp2_with fail
      refine (so00 A3 A4 c3 c4 _).mono ?_; rintro e w4 ⟨rfl, hb⟩
      have s7 : (w3.alloc (.cells #[.int .i64 0, .int .i64 0, .int .i64 0, .slice A4 0 c4, .int .i64 0, .int .i64 0] 31)).heap.size ≤ w4.heap.size := Below.size hb
      have B7 := below_next (Nat.le_refl _) B6 hb
      have Kb7 := Kb6.below hb Kb6.lt
      have Xb7 := Xb6.below hb Xb6.lt
      have Wb7 := Wb6.below hb Wb6.lt
      have P7 := P6.below hb
      clear B6 Kb6 Xb6 Wb6 P6 Xbc0 Xbc1 Xbc2 Xbc3 Xbc4 Xbc5 Wbc0 Wbc1 Wbc2 Wbc3 Wbc4 Wbc5 hb
      have Xbc0 : w4.cell? ⟨w2.heap.size, 0, none⟩ = some (.int .i64 0) := Xb7.cell 0
      have Xbc1 : w4.cell? ⟨w2.heap.size, 1, none⟩ = some (.int .i64 0) := Xb7.cell 1
      have Xbc2 : w4.cell? ⟨w2.heap.size, 2, none⟩ = some (.int .i64 0) := Xb7.cell 2
      have Xbc3 : w4.cell? ⟨w2.heap.size, 3, none⟩ = some (.slice A3 0 c3) := Xb7.cell 3
      have Xbc4 : w4.cell? ⟨w2.heap.size, 4, none⟩ = some (.int .i64 0) := Xb7.cell 4
      have Xbc5 : w4.cell? ⟨w2.heap.size, 5, none⟩ = some (.int .i64 0) := Xb7.cell 5
      have Wbc0 : w4.cell? ⟨w3.heap.size, 0, none⟩ = some (.int .i64 0) := Wb7.cell 0
      have Wbc1 : w4.cell? ⟨w3.heap.size, 1, none⟩ = some (.int .i64 0) := Wb7.cell 1
      have Wbc2 : w4.cell? ⟨w3.heap.size, 2, none⟩ = some (.int .i64 0) := Wb7.cell 2
      have Wbc3 : w4.cell? ⟨w3.heap.size, 3, none⟩ = some (.slice A4 0 c4) := Wb7.cell 3
      have Wbc4 : w4.cell? ⟨w3.heap.size, 4, none⟩ = some (.int .i64 0) := Wb7.cell 4
      have Wbc5 : w4.cell? ⟨w3.heap.size, 5, none⟩ = some (.int .i64 0) := Wb7.cell 5
      go_wp2_with fail
      refine (so00 A3 A4 c3 c4 _).mono ?_; rintro e w5 ⟨rfl, hb⟩
      have s8 : w4.heap.size ≤ w5.heap.size := Below.size hb
      have B8 := below_next (Nat.le_refl _) B7 hb
      have Kb8 := Kb7.below hb Kb7.lt
      have Xb8 := Xb7.below hb Xb7.lt
      have Wb8 := Wb7.below hb Wb7.lt
      have P8 := P7.below hb
      clear B7 Kb7 Xb7 Wb7 P7 Xbc0 Xbc1 Xbc2 Xbc3 Xbc4 Xbc5 Wbc0 Wbc1 Wbc2 Wbc3 Wbc4 Wbc5 hb
      go_wp2_with fail
      go_ret
      exact ⟨rfl, B8⟩
    · skip
      obtain ⟨CS, CI⟩ := after_some (by omega) ha
      rw [Sx.aft_go, Bool.and_eq_true] at ha
      obtain ⟨hk, hgo⟩ := ha
      have hl2 := Sx.step_len l m ps b t x
      obtain ⟨n0, n1, n2, n3, n4, n5⟩ := Sx.kOK_nums hk
      have hok := (Sx.kOK_of hk).1
      have CG := fun (wx : World) (hp : PR wx wx.heap.size A2 ps) => impl_Grows o l m A2 c2 b t ps wx hp (by omega)
      rw [hk, Bool.true_and] at CG
      have CC := hide (fun wx => by have := impl_ClearCode o l m wx; rwa [Sx.clear_yes hok] at this)
      have hk2 := Sx.step_ok hk hgo
      by_cases hx : x = Sx.two l
      · skip
        obtain ⟨f1, f2, f3, f4⟩ := Sx.clear_step hk hx
        rw [f1] at hk2
        have hgo2 : Sx.aftOK o l m (Sx.stepP l m ps b t x) b (-1) x = true := by rw [Sx.aft_go, hk2]; simp [Sx.goB, hx]
        have CY := fun (A3 : Option Addr) (c3 : Nat) (wx : World) (hp : PR wx wx.heap.size A3 (Sx.stepP l m ps b t x)) => impl_After o l m A3 c3 b (-1) x (Sx.stepP l m ps b t x) wx hp (by omega)
        simp only [hgo2, Sx.ifA_t, Sx.ifP_t, f4, f1] at CY
        unfold AftY at CS CI
        obtain ⟨Qs, hQs⟩ : ∃ P, P = Sx.stepP l m ps b t x := ⟨_, rfl⟩
        obtain ⟨t2, hT2⟩ : ∃ t2, t2 = Sx.advT l x := ⟨_, rfl⟩
        rw [← hQs, ← hT2] at CS CI
        rw [← hQs] at hl2
        have hl2 : Qs.length ≤ 1048576 := by omega
        have CS := hide CS
        have CI := hide CI
        rw [f1] at hT2
        subst hT2
        rw [← hQs] at CY f2 f3 hk2
        have CY := hide CY
        have CK := hide (fun (A3 : Option Addr) (c3 : Nat) (wx : World) (hp : PR wx wx.heap.size A3 Qs) => by have := impl_KnownValid o l m A3 c3 b (-1) Qs wx hp hl2; rwa [hk2] at this)
        have CR := hide (fun (A3 : Option Addr) (c3 : Nat) (wx : World) (hp : PR wx wx.heap.size A3 Qs) => by have := impl_Grows o l m A3 c3 b (-1) Qs wx hp hl2; rwa [hk2, f3] at this)
        have ec : (x == Sx.two l) = true := by rw [beq_iff_eq]; exact hx
        have eb : (((Qs.length : Nat) : Int) == b) = true := by rw [beq_iff_eq]; exact f2
        clear hk hgo hk2 hgo2 hQs hok hx f1 f2 f3 f4
        have Kbc0 : (w1.alloc (.cells #[.int .i64 o, .int .i64 l, .int .i64 m, .slice A2 ps.length c2, .int .i64 b, .int .i64 t] 31)).cell? ⟨w1.heap.size, 0, none⟩ = some (.int .i64 o) := Kb2.cell 0
        have Kbc1 : (w1.alloc (.cells #[.int .i64 o, .int .i64 l, .int .i64 m, .slice A2 ps.length c2, .int .i64 b, .int .i64 t] 31)).cell? ⟨w1.heap.size, 1, none⟩ = some (.int .i64 l) := Kb2.cell 1
        have Kbc2 : (w1.alloc (.cells #[.int .i64 o, .int .i64 l, .int .i64 m, .slice A2 ps.length c2, .int .i64 b, .int .i64 t] 31)).cell? ⟨w1.heap.size, 2, none⟩ = some (.int .i64 m) := Kb2.cell 2
        have Kbc3 : (w1.alloc (.cells #[.int .i64 o, .int .i64 l, .int .i64 m, .slice A2 ps.length c2, .int .i64 b, .int .i64 t] 31)).cell? ⟨w1.heap.size, 3, none⟩ = some (.slice A2 ps.length c2) := Kb2.cell 3
        have Kbc4 : (w1.alloc (.cells #[.int .i64 o, .int .i64 l, .int .i64 m, .slice A2 ps.length c2, .int .i64 b, .int .i64 t] 31)).cell? ⟨w1.heap.size, 4, none⟩ = some (.int .i64 b) := Kb2.cell 4
        have Kbc5 : (w1.alloc (.cells #[.int .i64 o, .int .i64 l, .int .i64 m, .slice A2 ps.length c2, .int .i64 b, .int .i64 t] 31)).cell? ⟨w1.heap.size, 5, none⟩ = some (.int .i64 t) := Kb2.cell 5
        go_wp2_with fail
        refine ((unhide CI) _ _ _ (P2.pr (Nat.le_refl _)) hcp).mono ?_; rintro e w2 ⟨A3, c3, rfl, O3, hb⟩
        have s3 : (w1.alloc (.cells #[.int .i64 o, .int .i64 l, .int .i64 m, .slice A2 ps.length c2, .int .i64 b, .int .i64 t] 31)).heap.size ≤ w2.heap.size := Below.size hb
        have B3 := below_next (Nat.le_refl _) B2 hb
        have Kb3 := Kb2.below hb Kb2.lt
        have P3 := P2.below hb
        clear B2 Kb2 P2 Kbc0 Kbc1 Kbc2 Kbc3 Kbc4 Kbc5 hb
        have X_3 := OwnV.pairs O3
        clear O3
        have s4 : (w2.alloc (.cells #[.int .i64 o, .int .i64 l, .int .i64 m, .slice A3 Qs.length c3, .int .i64 b, .int .i64 (-1)] 31)).heap.size = w2.heap.size + 1 := World.size_alloc _ _
        have B4 := B3.alloc B3.size (.cells #[.int .i64 o, .int .i64 l, .int .i64 m, .slice A3 Qs.length c3, .int .i64 b, .int .i64 (-1)] 31)
        have Kb4 := Kb3.alloc (.cells #[.int .i64 o, .int .i64 l, .int .i64 m, .slice A3 Qs.length c3, .int .i64 b, .int .i64 (-1)] 31)
        have P4 := P3.alloc (.cells #[.int .i64 o, .int .i64 l, .int .i64 m, .slice A3 Qs.length c3, .int .i64 b, .int .i64 (-1)] 31)
        have X_4 := X_3.alloc (.cells #[.int .i64 o, .int .i64 l, .int .i64 m, .slice A3 Qs.length c3, .int .i64 b, .int .i64 (-1)] 31)
        have Xb4 := Blk.new w2 31 #[.int .i64 o, .int .i64 l, .int .i64 m, .slice A3 Qs.length c3, .int .i64 b, .int .i64 (-1)]
        clear B3 Kb3 P3 X_3
        have Kbc0 : (w2.alloc (.cells #[.int .i64 o, .int .i64 l, .int .i64 m, .slice A3 Qs.length c3, .int .i64 b, .int .i64 (-1)] 31)).cell? ⟨w1.heap.size, 0, none⟩ = some (.int .i64 o) := Kb4.cell 0
        have Kbc1 : (w2.alloc (.cells #[.int .i64 o, .int .i64 l, .int .i64 m, .slice A3 Qs.length c3, .int .i64 b, .int .i64 (-1)] 31)).cell? ⟨w1.heap.size, 1, none⟩ = some (.int .i64 l) := Kb4.cell 1
        have Kbc2 : (w2.alloc (.cells #[.int .i64 o, .int .i64 l, .int .i64 m, .slice A3 Qs.length c3, .int .i64 b, .int .i64 (-1)] 31)).cell? ⟨w1.heap.size, 2, none⟩ = some (.int .i64 m) := Kb4.cell 2
        have Kbc3 : (w2.alloc (.cells #[.int .i64 o, .int .i64 l, .int .i64 m, .slice A3 Qs.length c3, .int .i64 b, .int .i64 (-1)] 31)).cell? ⟨w1.heap.size, 3, none⟩ = some (.slice A2 ps.length c2) := Kb4.cell 3
        have Kbc4 : (w2.alloc (.cells #[.int .i64 o, .int .i64 l, .int .i64 m, .slice A3 Qs.length c3, .int .i64 b, .int .i64 (-1)] 31)).cell? ⟨w1.heap.size, 4, none⟩ = some (.int .i64 b) := Kb4.cell 4
        have Kbc5 : (w2.alloc (.cells #[.int .i64 o, .int .i64 l, .int .i64 m, .slice A3 Qs.length c3, .int .i64 b, .int .i64 (-1)] 31)).cell? ⟨w1.heap.size, 5, none⟩ = some (.int .i64 t) := Kb4.cell 5
        go_wp2_with fail
        refine ((unhide CS) _ _ _ (P4.pr (Nat.le_refl _)) hcp).mono ?_; rintro e w3 ⟨A4, c4, rfl, O4, hb⟩
        have s5 : (w2.alloc (.cells #[.int .i64 o, .int .i64 l, .int .i64 m, .slice A3 Qs.length c3, .int .i64 b, .int .i64 (-1)] 31)).heap.size ≤ w3.heap.size := Below.size hb
        have B5 := below_next (Nat.le_refl _) B4 hb
        have Kb5 := Kb4.below hb Kb4.lt
        have Xb5 := Xb4.below hb Xb4.lt
        have P5 := P4.below hb
        have X_5 := X_4.below hb
        clear B4 Kb4 Xb4 P4 X_4 Kbc0 Kbc1 Kbc2 Kbc3 Kbc4 Kbc5 hb
        have W_5 := OwnV.pairs O4
        clear O4
        have s6 : (w3.alloc (.cells #[.int .i64 o, .int .i64 l, .int .i64 m, .slice A4 Qs.length c4, .int .i64 b, .int .i64 (-1)] 31)).heap.size = w3.heap.size + 1 := World.size_alloc _ _
        have B6 := B5.alloc B5.size (.cells #[.int .i64 o, .int .i64 l, .int .i64 m, .slice A4 Qs.length c4, .int .i64 b, .int .i64 (-1)] 31)
        have Kb6 := Kb5.alloc (.cells #[.int .i64 o, .int .i64 l, .int .i64 m, .slice A4 Qs.length c4, .int .i64 b, .int .i64 (-1)] 31)
        have Xb6 := Xb5.alloc (.cells #[.int .i64 o, .int .i64 l, .int .i64 m, .slice A4 Qs.length c4, .int .i64 b, .int .i64 (-1)] 31)
        have P6 := P5.alloc (.cells #[.int .i64 o, .int .i64 l, .int .i64 m, .slice A4 Qs.length c4, .int .i64 b, .int .i64 (-1)] 31)
        have X_6 := X_5.alloc (.cells #[.int .i64 o, .int .i64 l, .int .i64 m, .slice A4 Qs.length c4, .int .i64 b, .int .i64 (-1)] 31)
        have W_6 := W_5.alloc (.cells #[.int .i64 o, .int .i64 l, .int .i64 m, .slice A4 Qs.length c4, .int .i64 b, .int .i64 (-1)] 31)
        have Wb6 := Blk.new w3 31 #[.int .i64 o, .int .i64 l, .int .i64 m, .slice A4 Qs.length c4, .int .i64 b, .int .i64 (-1)]
        clear B5 Kb5 Xb5 P5 X_5 W_5
        have Xbc0 : (w3.alloc (.cells #[.int .i64 o, .int .i64 l, .int .i64 m, .slice A4 Qs.length c4, .int .i64 b, .int .i64 (-1)] 31)).cell? ⟨w2.heap.size, 0, none⟩ = some (.int .i64 o) := Xb6.cell 0
        have Xbc1 : (w3.alloc (.cells #[.int .i64 o, .int .i64 l, .int .i64 m, .slice A4 Qs.length c4, .int .i64 b, .int .i64 (-1)] 31)).cell? ⟨w2.heap.size, 1, none⟩ = some (.int .i64 l) := Xb6.cell 1
        have Xbc2 : (w3.alloc (.cells #[.int .i64 o, .int .i64 l, .int .i64 m, .slice A4 Qs.length c4, .int .i64 b, .int .i64 (-1)] 31)).cell? ⟨w2.heap.size, 2, none⟩ = some (.int .i64 m) := Xb6.cell 2
        have Xbc3 : (w3.alloc (.cells #[.int .i64 o, .int .i64 l, .int .i64 m, .slice A4 Qs.length c4, .int .i64 b, .int .i64 (-1)] 31)).cell? ⟨w2.heap.size, 3, none⟩ = some (.slice A3 Qs.length c3) := Xb6.cell 3
        have Xbc4 : (w3.alloc (.cells #[.int .i64 o, .int .i64 l, .int .i64 m, .slice A4 Qs.length c4, .int .i64 b, .int .i64 (-1)] 31)).cell? ⟨w2.heap.size, 4, none⟩ = some (.int .i64 b) := Xb6.cell 4
        have Xbc5 : (w3.alloc (.cells #[.int .i64 o, .int .i64 l, .int .i64 m, .slice A4 Qs.length c4, .int .i64 b, .int .i64 (-1)] 31)).cell? ⟨w2.heap.size, 5, none⟩ = some (.int .i64 (-1)) := Xb6.cell 5
        have Wbc0 : (w3.alloc (.cells #[.int .i64 o, .int .i64 l, .int .i64 m, .slice A4 Qs.length c4, .int .i64 b, .int .i64 (-1)] 31)).cell? ⟨w3.heap.size, 0, none⟩ = some (.int .i64 o) := Wb6.cell 0
        have Wbc1 : (w3.alloc (.cells #[.int .i64 o, .int .i64 l, .int .i64 m, .slice A4 Qs.length c4, .int .i64 b, .int .i64 (-1)] 31)).cell? ⟨w3.heap.size, 1, none⟩ = some (.int .i64 l) := Wb6.cell 1
        have Wbc2 : (w3.alloc (.cells #[.int .i64 o, .int .i64 l, .int .i64 m, .slice A4 Qs.length c4, .int .i64 b, .int .i64 (-1)] 31)).cell? ⟨w3.heap.size, 2, none⟩ = some (.int .i64 m) := Wb6.cell 2
        have Wbc3 : (w3.alloc (.cells #[.int .i64 o, .int .i64 l, .int .i64 m, .slice A4 Qs.length c4, .int .i64 b, .int .i64 (-1)] 31)).cell? ⟨w3.heap.size, 3, none⟩ = some (.slice A4 Qs.length c4) := Wb6.cell 3
        have Wbc4 : (w3.alloc (.cells #[.int .i64 o, .int .i64 l, .int .i64 m, .slice A4 Qs.length c4, .int .i64 b, .int .i64 (-1)] 31)).cell? ⟨w3.heap.size, 4, none⟩ = some (.int .i64 b) := Wb6.cell 4
        have Wbc5 : (w3.alloc (.cells #[.int .i64 o, .int .i64 l, .int .i64 m, .slice A4 Qs.length c4, .int .i64 b, .int .i64 (-1)] 31)).cell? ⟨w3.heap.size, 5, none⟩ = some (.int .i64 (-1)) := Wb6.cell 5
        go_wp2_with fail
        refine (laws_soKnown o l m A3 A4 c3 c4 b (-1) Qs _ (X_6.pr (Nat.le_refl _)) (W_6.pr (Nat.le_refl _)) hl2).mono ?_; rintro e w4 ⟨rfl, hb⟩
        have s7 : (w3.alloc (.cells #[.int .i64 o, .int .i64 l, .int .i64 m, .slice A4 Qs.length c4, .int .i64 b, .int .i64 (-1)] 31)).heap.size ≤ w4.heap.size := Below.size hb
        have B7 := below_next (Nat.le_refl _) B6 hb
        have Kb7 := Kb6.below hb Kb6.lt
        have Xb7 := Xb6.below hb Xb6.lt
        have Wb7 := Wb6.below hb Wb6.lt
        have P7 := P6.below hb
        have X_7 := X_6.below hb
        have W_7 := W_6.below hb
        clear B6 Kb6 Xb6 Wb6 P6 X_6 W_6 Xbc0 Xbc1 Xbc2 Xbc3 Xbc4 Xbc5 Wbc0 Wbc1 Wbc2 Wbc3 Wbc4 Wbc5 hb
        have Kbc0 : w4.cell? ⟨w1.heap.size, 0, none⟩ = some (.int .i64 o) := Kb7.cell 0
        have Kbc1 : w4.cell? ⟨w1.heap.size, 1, none⟩ = some (.int .i64 l) := Kb7.cell 1
        have Kbc2 : w4.cell? ⟨w1.heap.size, 2, none⟩ = some (.int .i64 m) := Kb7.cell 2
        have Kbc3 : w4.cell? ⟨w1.heap.size, 3, none⟩ = some (.slice A2 ps.length c2) := Kb7.cell 3
        have Kbc4 : w4.cell? ⟨w1.heap.size, 4, none⟩ = some (.int .i64 b) := Kb7.cell 4
        have Kbc5 : w4.cell? ⟨w1.heap.size, 5, none⟩ = some (.int .i64 t) := Kb7.cell 5
        go_wp2_with fail
        refine ((unhide CC) _).mono ?_; rintro e w5 ⟨rfl, hb⟩
        have s8 : w4.heap.size ≤ w5.heap.size := Below.size hb
        have B8 := below_next (Nat.le_refl _) B7 hb
        have Kb8 := Kb7.below hb Kb7.lt
        have Xb8 := Xb7.below hb Xb7.lt
        have Wb8 := Wb7.below hb Wb7.lt
        have P8 := P7.below hb
        have X_8 := X_7.below hb
        have W_8 := W_7.below hb
        clear B7 Kb7 Xb7 Wb7 P7 X_7 W_7 Kbc0 Kbc1 Kbc2 Kbc3 Kbc4 Kbc5 hb
        have Xbc0 : w5.cell? ⟨w2.heap.size, 0, none⟩ = some (.int .i64 o) := Xb8.cell 0
        have Xbc1 : w5.cell? ⟨w2.heap.size, 1, none⟩ = some (.int .i64 l) := Xb8.cell 1
        have Xbc2 : w5.cell? ⟨w2.heap.size, 2, none⟩ = some (.int .i64 m) := Xb8.cell 2
        have Xbc3 : w5.cell? ⟨w2.heap.size, 3, none⟩ = some (.slice A3 Qs.length c3) := Xb8.cell 3
        have Xbc4 : w5.cell? ⟨w2.heap.size, 4, none⟩ = some (.int .i64 b) := Xb8.cell 4
        have Xbc5 : w5.cell? ⟨w2.heap.size, 5, none⟩ = some (.int .i64 (-1)) := Xb8.cell 5
        go_wp2_with fail
        refine ((unhide CY) _ _ _ (X_8.pr (Nat.le_refl _))).mono ?_; rintro e w6 ⟨A5, c5, rfl, O5, hb⟩
        have s9 : w5.heap.size ≤ w6.heap.size := Below.size hb
        have B9 := below_next (Nat.le_refl _) B8 hb
        have Kb9 := Kb8.below hb Kb8.lt
        have Xb9 := Xb8.below hb Xb8.lt
        have Wb9 := Wb8.below hb Wb8.lt
        have P9 := P8.below hb
        have X_9 := X_8.below hb
        have W_9 := W_8.below hb
        clear B8 Kb8 Xb8 Wb8 P8 X_8 W_8 Xbc0 Xbc1 Xbc2 Xbc3 Xbc4 Xbc5 hb
        have Y_9 := OwnV.pairs O5
        clear O5
        have s10 : (w6.alloc (.cells #[.int .i64 o, .int .i64 l, .int .i64 m, .slice A5 Qs.length c5, .int .i64 b, .int .i64 (-1)] 31)).heap.size = w6.heap.size + 1 := World.size_alloc _ _
        have B10 := B9.alloc B9.size (.cells #[.int .i64 o, .int .i64 l, .int .i64 m, .slice A5 Qs.length c5, .int .i64 b, .int .i64 (-1)] 31)
        have Kb10 := Kb9.alloc (.cells #[.int .i64 o, .int .i64 l, .int .i64 m, .slice A5 Qs.length c5, .int .i64 b, .int .i64 (-1)] 31)
        have Xb10 := Xb9.alloc (.cells #[.int .i64 o, .int .i64 l, .int .i64 m, .slice A5 Qs.length c5, .int .i64 b, .int .i64 (-1)] 31)
        have Wb10 := Wb9.alloc (.cells #[.int .i64 o, .int .i64 l, .int .i64 m, .slice A5 Qs.length c5, .int .i64 b, .int .i64 (-1)] 31)
        have P10 := P9.alloc (.cells #[.int .i64 o, .int .i64 l, .int .i64 m, .slice A5 Qs.length c5, .int .i64 b, .int .i64 (-1)] 31)
        have X_10 := X_9.alloc (.cells #[.int .i64 o, .int .i64 l, .int .i64 m, .slice A5 Qs.length c5, .int .i64 b, .int .i64 (-1)] 31)
        have W_10 := W_9.alloc (.cells #[.int .i64 o, .int .i64 l, .int .i64 m, .slice A5 Qs.length c5, .int .i64 b, .int .i64 (-1)] 31)
        have Y_10 := Y_9.alloc (.cells #[.int .i64 o, .int .i64 l, .int .i64 m, .slice A5 Qs.length c5, .int .i64 b, .int .i64 (-1)] 31)
        have Yb10 := Blk.new w6 31 #[.int .i64 o, .int .i64 l, .int .i64 m, .slice A5 Qs.length c5, .int .i64 b, .int .i64 (-1)]
        clear B9 Kb9 Xb9 Wb9 P9 X_9 W_9 Y_9
        have Xbc0 : (w6.alloc (.cells #[.int .i64 o, .int .i64 l, .int .i64 m, .slice A5 Qs.length c5, .int .i64 b, .int .i64 (-1)] 31)).cell? ⟨w2.heap.size, 0, none⟩ = some (.int .i64 o) := Xb10.cell 0
        have Xbc1 : (w6.alloc (.cells #[.int .i64 o, .int .i64 l, .int .i64 m, .slice A5 Qs.length c5, .int .i64 b, .int .i64 (-1)] 31)).cell? ⟨w2.heap.size, 1, none⟩ = some (.int .i64 l) := Xb10.cell 1
        have Xbc2 : (w6.alloc (.cells #[.int .i64 o, .int .i64 l, .int .i64 m, .slice A5 Qs.length c5, .int .i64 b, .int .i64 (-1)] 31)).cell? ⟨w2.heap.size, 2, none⟩ = some (.int .i64 m) := Xb10.cell 2
        have Xbc3 : (w6.alloc (.cells #[.int .i64 o, .int .i64 l, .int .i64 m, .slice A5 Qs.length c5, .int .i64 b, .int .i64 (-1)] 31)).cell? ⟨w2.heap.size, 3, none⟩ = some (.slice A3 Qs.length c3) := Xb10.cell 3
        have Xbc4 : (w6.alloc (.cells #[.int .i64 o, .int .i64 l, .int .i64 m, .slice A5 Qs.length c5, .int .i64 b, .int .i64 (-1)] 31)).cell? ⟨w2.heap.size, 4, none⟩ = some (.int .i64 b) := Xb10.cell 4
        have Xbc5 : (w6.alloc (.cells #[.int .i64 o, .int .i64 l, .int .i64 m, .slice A5 Qs.length c5, .int .i64 b, .int .i64 (-1)] 31)).cell? ⟨w2.heap.size, 5, none⟩ = some (.int .i64 (-1)) := Xb10.cell 5
        have Kbc0 : (w6.alloc (.cells #[.int .i64 o, .int .i64 l, .int .i64 m, .slice A5 Qs.length c5, .int .i64 b, .int .i64 (-1)] 31)).cell? ⟨w1.heap.size, 0, none⟩ = some (.int .i64 o) := Kb10.cell 0
        have Kbc1 : (w6.alloc (.cells #[.int .i64 o, .int .i64 l, .int .i64 m, .slice A5 Qs.length c5, .int .i64 b, .int .i64 (-1)] 31)).cell? ⟨w1.heap.size, 1, none⟩ = some (.int .i64 l) := Kb10.cell 1
        have Kbc2 : (w6.alloc (.cells #[.int .i64 o, .int .i64 l, .int .i64 m, .slice A5 Qs.length c5, .int .i64 b, .int .i64 (-1)] 31)).cell? ⟨w1.heap.size, 2, none⟩ = some (.int .i64 m) := Kb10.cell 2
        have Kbc3 : (w6.alloc (.cells #[.int .i64 o, .int .i64 l, .int .i64 m, .slice A5 Qs.length c5, .int .i64 b, .int .i64 (-1)] 31)).cell? ⟨w1.heap.size, 3, none⟩ = some (.slice A2 ps.length c2) := Kb10.cell 3
        have Kbc4 : (w6.alloc (.cells #[.int .i64 o, .int .i64 l, .int .i64 m, .slice A5 Qs.length c5, .int .i64 b, .int .i64 (-1)] 31)).cell? ⟨w1.heap.size, 4, none⟩ = some (.int .i64 b) := Kb10.cell 4
        have Kbc5 : (w6.alloc (.cells #[.int .i64 o, .int .i64 l, .int .i64 m, .slice A5 Qs.length c5, .int .i64 b, .int .i64 (-1)] 31)).cell? ⟨w1.heap.size, 5, none⟩ = some (.int .i64 t) := Kb10.cell 5
        go_wp2_with fail
        refine ((unhide CK) _ _ _ (X_10.pr (Nat.le_refl _))).mono ?_; rintro e w7 ⟨rfl, hb⟩
        have s11 : (w6.alloc (.cells #[.int .i64 o, .int .i64 l, .int .i64 m, .slice A5 Qs.length c5, .int .i64 b, .int .i64 (-1)] 31)).heap.size ≤ w7.heap.size := Below.size hb
        have B11 := below_next (Nat.le_refl _) B10 hb
        have Kb11 := Kb10.below hb Kb10.lt
        have Xb11 := Xb10.below hb Xb10.lt
        have Wb11 := Wb10.below hb Wb10.lt
        have Yb11 := Yb10.below hb Yb10.lt
        have P11 := P10.below hb
        have X_11 := X_10.below hb
        have W_11 := W_10.below hb
        have Y_11 := Y_10.below hb
        clear B10 Kb10 Xb10 Wb10 Yb10 P10 X_10 W_10 Y_10 Xbc0 Xbc1 Xbc2 Xbc3 Xbc4 Xbc5 Kbc0 Kbc1 Kbc2 Kbc3 Kbc4 Kbc5 hb
        have Xbc0 : w7.cell? ⟨w2.heap.size, 0, none⟩ = some (.int .i64 o) := Xb11.cell 0
        have Xbc1 : w7.cell? ⟨w2.heap.size, 1, none⟩ = some (.int .i64 l) := Xb11.cell 1
        have Xbc2 : w7.cell? ⟨w2.heap.size, 2, none⟩ = some (.int .i64 m) := Xb11.cell 2
        have Xbc3 : w7.cell? ⟨w2.heap.size, 3, none⟩ = some (.slice A3 Qs.length c3) := Xb11.cell 3
        have Xbc4 : w7.cell? ⟨w2.heap.size, 4, none⟩ = some (.int .i64 b) := Xb11.cell 4
        have Xbc5 : w7.cell? ⟨w2.heap.size, 5, none⟩ = some (.int .i64 (-1)) := Xb11.cell 5
        have Kbc0 : w7.cell? ⟨w1.heap.size, 0, none⟩ = some (.int .i64 o) := Kb11.cell 0
        have Kbc1 : w7.cell? ⟨w1.heap.size, 1, none⟩ = some (.int .i64 l) := Kb11.cell 1
        have Kbc2 : w7.cell? ⟨w1.heap.size, 2, none⟩ = some (.int .i64 m) := Kb11.cell 2
        have Kbc3 : w7.cell? ⟨w1.heap.size, 3, none⟩ = some (.slice A2 ps.length c2) := Kb11.cell 3
        have Kbc4 : w7.cell? ⟨w1.heap.size, 4, none⟩ = some (.int .i64 b) := Kb11.cell 4
        have Kbc5 : w7.cell? ⟨w1.heap.size, 5, none⟩ = some (.int .i64 t) := Kb11.cell 5
        go_wp2_with fail
        refine ((unhide CR) _ _ _ (X_11.pr (Nat.le_refl _))).mono ?_; rintro e w8 ⟨rfl, hb⟩
        have s12 : w7.heap.size ≤ w8.heap.size := Below.size hb
        have B12 := below_next (Nat.le_refl _) B11 hb
        have Kb12 := Kb11.below hb Kb11.lt
        have Xb12 := Xb11.below hb Xb11.lt
        have Wb12 := Wb11.below hb Wb11.lt
        have Yb12 := Yb11.below hb Yb11.lt
        have P12 := P11.below hb
        have X_12 := X_11.below hb
        have W_12 := W_11.below hb
        have Y_12 := Y_11.below hb
        clear B11 Kb11 Xb11 Wb11 Yb11 P11 X_11 W_11 Y_11 Xbc0 Xbc1 Xbc2 Xbc3 Xbc4 Xbc5 Kbc0 Kbc1 Kbc2 Kbc3 Kbc4 Kbc5 hb
        have Xbc0 : w8.cell? ⟨w2.heap.size, 0, none⟩ = some (.int .i64 o) := Xb12.cell 0
        have Xbc1 : w8.cell? ⟨w2.heap.size, 1, none⟩ = some (.int .i64 l) := Xb12.cell 1
        have Xbc2 : w8.cell? ⟨w2.heap.size, 2, none⟩ = some (.int .i64 m) := Xb12.cell 2
        have Xbc3 : w8.cell? ⟨w2.heap.size, 3, none⟩ = some (.slice A3 Qs.length c3) := Xb12.cell 3
        have Xbc4 : w8.cell? ⟨w2.heap.size, 4, none⟩ = some (.int .i64 b) := Xb12.cell 4
        have Xbc5 : w8.cell? ⟨w2.heap.size, 5, none⟩ = some (.int .i64 (-1)) := Xb12.cell 5
        have Ybc0 : w8.cell? ⟨w6.heap.size, 0, none⟩ = some (.int .i64 o) := Yb12.cell 0
        have Ybc1 : w8.cell? ⟨w6.heap.size, 1, none⟩ = some (.int .i64 l) := Yb12.cell 1
        have Ybc2 : w8.cell? ⟨w6.heap.size, 2, none⟩ = some (.int .i64 m) := Yb12.cell 2
        have Ybc3 : w8.cell? ⟨w6.heap.size, 3, none⟩ = some (.slice A5 Qs.length c5) := Yb12.cell 3
        have Ybc4 : w8.cell? ⟨w6.heap.size, 4, none⟩ = some (.int .i64 b) := Yb12.cell 4
        have Ybc5 : w8.cell? ⟨w6.heap.size, 5, none⟩ = some (.int .i64 (-1)) := Yb12.cell 5
        go_wp2_with fail
        refine (laws_soKnown o l m A5 A3 c5 c3 b (-1) Qs _ (Y_12.pr (Nat.le_refl _)) (X_12.pr (Nat.le_refl _)) hl2).mono ?_; rintro e w9 ⟨rfl, hb⟩
        have s13 : w8.heap.size ≤ w9.heap.size := Below.size hb
        have B13 := below_next (Nat.le_refl _) B12 hb
        have Kb13 := Kb12.below hb Kb12.lt
        have Xb13 := Xb12.below hb Xb12.lt
        have Wb13 := Wb12.below hb Wb12.lt
        have Yb13 := Yb12.below hb Yb12.lt
        have P13 := P12.below hb
        have X_13 := X_12.below hb
        have W_13 := W_12.below hb
        have Y_13 := Y_12.below hb
        clear B12 Kb12 Xb12 Wb12 Yb12 P12 X_12 W_12 Y_12 Xbc0 Xbc1 Xbc2 Xbc3 Xbc4 Xbc5 Ybc0 Ybc1 Ybc2 Ybc3 Ybc4 Ybc5 hb
        go_wp2_with fail
        go_ret
        exact ⟨rfl, B13⟩
      · skip
        have hc := ((Sx.go_of hgo).resolve_left hx).2
        obtain ⟨f1, more, f2, f3⟩ := Sx.word_step' hc
        unfold AftY at CS CI
        obtain ⟨Qs, hQs⟩ : ∃ P, P = Sx.stepP l m ps b t x := ⟨_, rfl⟩
        obtain ⟨t2, hT2⟩ : ∃ t2, t2 = Sx.advT l x := ⟨_, rfl⟩
        rw [← hQs, ← hT2] at CS CI
        rw [← hQs] at hl2
        have hl2 : Qs.length ≤ 1048576 := by omega
        have CS := hide CS
        have CI := hide CI
        rw [f1] at hk2
        have hT3 : x = t2 := (hT2.trans f1).symm
        clear hT2
        subst hT3
        rw [← hQs] at f2 hk2
        have CK := hide (fun (A3 : Option Addr) (c3 : Nat) (wx : World) (hp : PR wx wx.heap.size A3 Qs) => by have := impl_KnownValid o l m A3 c3 b x Qs wx hp hl2; rwa [hk2] at this)
        have hln : Qs.length = ps.length + more.length := by rw [f2, List.length_append]
        have hat : ∀ j (h : j < ps.length), Qs[j]? = some ps[j] := fun j h => by rw [f2, List.getElem?_append_left h, List.getElem?_eq_getElem h]
        have ec : (x == Sx.two l) = false := by rw [beq_eq_false_iff_ne]; exact hx
        have hat := hide hat
        have HLN := hide hln
        clear hln
        have F3 := hide f3
        clear f3
        clear hk hgo hk2 hQs hok hx hc f1 f2
        have Kbc0 : (w1.alloc (.cells #[.int .i64 o, .int .i64 l, .int .i64 m, .slice A2 ps.length c2, .int .i64 b, .int .i64 t] 31)).cell? ⟨w1.heap.size, 0, none⟩ = some (.int .i64 o) := Kb2.cell 0
        have Kbc1 : (w1.alloc (.cells #[.int .i64 o, .int .i64 l, .int .i64 m, .slice A2 ps.length c2, .int .i64 b, .int .i64 t] 31)).cell? ⟨w1.heap.size, 1, none⟩ = some (.int .i64 l) := Kb2.cell 1
        have Kbc2 : (w1.alloc (.cells #[.int .i64 o, .int .i64 l, .int .i64 m, .slice A2 ps.length c2, .int .i64 b, .int .i64 t] 31)).cell? ⟨w1.heap.size, 2, none⟩ = some (.int .i64 m) := Kb2.cell 2
        have Kbc3 : (w1.alloc (.cells #[.int .i64 o, .int .i64 l, .int .i64 m, .slice A2 ps.length c2, .int .i64 b, .int .i64 t] 31)).cell? ⟨w1.heap.size, 3, none⟩ = some (.slice A2 ps.length c2) := Kb2.cell 3
        have Kbc4 : (w1.alloc (.cells #[.int .i64 o, .int .i64 l, .int .i64 m, .slice A2 ps.length c2, .int .i64 b, .int .i64 t] 31)).cell? ⟨w1.heap.size, 4, none⟩ = some (.int .i64 b) := Kb2.cell 4
        have Kbc5 : (w1.alloc (.cells #[.int .i64 o, .int .i64 l, .int .i64 m, .slice A2 ps.length c2, .int .i64 b, .int .i64 t] 31)).cell? ⟨w1.heap.size, 5, none⟩ = some (.int .i64 t) := Kb2.cell 5
        go_wp2_with fail
        refine ((unhide CI) _ _ _ (P2.pr (Nat.le_refl _)) hcp).mono ?_; rintro e w2 ⟨A3, c3, rfl, O3, hb⟩
        have s3 : (w1.alloc (.cells #[.int .i64 o, .int .i64 l, .int .i64 m, .slice A2 ps.length c2, .int .i64 b, .int .i64 t] 31)).heap.size ≤ w2.heap.size := Below.size hb
        have B3 := below_next (Nat.le_refl _) B2 hb
        have Kb3 := Kb2.below hb Kb2.lt
        have P3 := P2.below hb
        clear B2 Kb2 P2 Kbc0 Kbc1 Kbc2 Kbc3 Kbc4 Kbc5 hb
        have X_3 := OwnV.pairs O3
        clear O3
        have s4 : (w2.alloc (.cells #[.int .i64 o, .int .i64 l, .int .i64 m, .slice A3 Qs.length c3, .int .i64 b, .int .i64 x] 31)).heap.size = w2.heap.size + 1 := World.size_alloc _ _
        have B4 := B3.alloc B3.size (.cells #[.int .i64 o, .int .i64 l, .int .i64 m, .slice A3 Qs.length c3, .int .i64 b, .int .i64 x] 31)
        have Kb4 := Kb3.alloc (.cells #[.int .i64 o, .int .i64 l, .int .i64 m, .slice A3 Qs.length c3, .int .i64 b, .int .i64 x] 31)
        have P4 := P3.alloc (.cells #[.int .i64 o, .int .i64 l, .int .i64 m, .slice A3 Qs.length c3, .int .i64 b, .int .i64 x] 31)
        have X_4 := X_3.alloc (.cells #[.int .i64 o, .int .i64 l, .int .i64 m, .slice A3 Qs.length c3, .int .i64 b, .int .i64 x] 31)
        have Xb4 := Blk.new w2 31 #[.int .i64 o, .int .i64 l, .int .i64 m, .slice A3 Qs.length c3, .int .i64 b, .int .i64 x]
        clear B3 Kb3 P3 X_3
        have Kbc0 : (w2.alloc (.cells #[.int .i64 o, .int .i64 l, .int .i64 m, .slice A3 Qs.length c3, .int .i64 b, .int .i64 x] 31)).cell? ⟨w1.heap.size, 0, none⟩ = some (.int .i64 o) := Kb4.cell 0
        have Kbc1 : (w2.alloc (.cells #[.int .i64 o, .int .i64 l, .int .i64 m, .slice A3 Qs.length c3, .int .i64 b, .int .i64 x] 31)).cell? ⟨w1.heap.size, 1, none⟩ = some (.int .i64 l) := Kb4.cell 1
        have Kbc2 : (w2.alloc (.cells #[.int .i64 o, .int .i64 l, .int .i64 m, .slice A3 Qs.length c3, .int .i64 b, .int .i64 x] 31)).cell? ⟨w1.heap.size, 2, none⟩ = some (.int .i64 m) := Kb4.cell 2
        have Kbc3 : (w2.alloc (.cells #[.int .i64 o, .int .i64 l, .int .i64 m, .slice A3 Qs.length c3, .int .i64 b, .int .i64 x] 31)).cell? ⟨w1.heap.size, 3, none⟩ = some (.slice A2 ps.length c2) := Kb4.cell 3
        have Kbc4 : (w2.alloc (.cells #[.int .i64 o, .int .i64 l, .int .i64 m, .slice A3 Qs.length c3, .int .i64 b, .int .i64 x] 31)).cell? ⟨w1.heap.size, 4, none⟩ = some (.int .i64 b) := Kb4.cell 4
        have Kbc5 : (w2.alloc (.cells #[.int .i64 o, .int .i64 l, .int .i64 m, .slice A3 Qs.length c3, .int .i64 b, .int .i64 x] 31)).cell? ⟨w1.heap.size, 5, none⟩ = some (.int .i64 t) := Kb4.cell 5
        go_wp2_with fail
        refine ((unhide CS) _ _ _ (P4.pr (Nat.le_refl _)) hcp).mono ?_; rintro e w3 ⟨A4, c4, rfl, O4, hb⟩
        have s5 : (w2.alloc (.cells #[.int .i64 o, .int .i64 l, .int .i64 m, .slice A3 Qs.length c3, .int .i64 b, .int .i64 x] 31)).heap.size ≤ w3.heap.size := Below.size hb
        have B5 := below_next (Nat.le_refl _) B4 hb
        have Kb5 := Kb4.below hb Kb4.lt
        have Xb5 := Xb4.below hb Xb4.lt
        have P5 := P4.below hb
        have X_5 := X_4.below hb
        clear B4 Kb4 Xb4 P4 X_4 Kbc0 Kbc1 Kbc2 Kbc3 Kbc4 Kbc5 hb
        have W_5 := OwnV.pairs O4
        clear O4
        have s6 : (w3.alloc (.cells #[.int .i64 o, .int .i64 l, .int .i64 m, .slice A4 Qs.length c4, .int .i64 b, .int .i64 x] 31)).heap.size = w3.heap.size + 1 := World.size_alloc _ _
        have B6 := B5.alloc B5.size (.cells #[.int .i64 o, .int .i64 l, .int .i64 m, .slice A4 Qs.length c4, .int .i64 b, .int .i64 x] 31)
        have Kb6 := Kb5.alloc (.cells #[.int .i64 o, .int .i64 l, .int .i64 m, .slice A4 Qs.length c4, .int .i64 b, .int .i64 x] 31)
        have Xb6 := Xb5.alloc (.cells #[.int .i64 o, .int .i64 l, .int .i64 m, .slice A4 Qs.length c4, .int .i64 b, .int .i64 x] 31)
        have P6 := P5.alloc (.cells #[.int .i64 o, .int .i64 l, .int .i64 m, .slice A4 Qs.length c4, .int .i64 b, .int .i64 x] 31)
        have X_6 := X_5.alloc (.cells #[.int .i64 o, .int .i64 l, .int .i64 m, .slice A4 Qs.length c4, .int .i64 b, .int .i64 x] 31)
        have W_6 := W_5.alloc (.cells #[.int .i64 o, .int .i64 l, .int .i64 m, .slice A4 Qs.length c4, .int .i64 b, .int .i64 x] 31)
        have Wb6 := Blk.new w3 31 #[.int .i64 o, .int .i64 l, .int .i64 m, .slice A4 Qs.length c4, .int .i64 b, .int .i64 x]
        clear B5 Kb5 Xb5 P5 X_5 W_5
        have Xbc0 : (w3.alloc (.cells #[.int .i64 o, .int .i64 l, .int .i64 m, .slice A4 Qs.length c4, .int .i64 b, .int .i64 x] 31)).cell? ⟨w2.heap.size, 0, none⟩ = some (.int .i64 o) := Xb6.cell 0
        have Xbc1 : (w3.alloc (.cells #[.int .i64 o, .int .i64 l, .int .i64 m, .slice A4 Qs.length c4, .int .i64 b, .int .i64 x] 31)).cell? ⟨w2.heap.size, 1, none⟩ = some (.int .i64 l) := Xb6.cell 1
        have Xbc2 : (w3.alloc (.cells #[.int .i64 o, .int .i64 l, .int .i64 m, .slice A4 Qs.length c4, .int .i64 b, .int .i64 x] 31)).cell? ⟨w2.heap.size, 2, none⟩ = some (.int .i64 m) := Xb6.cell 2
        have Xbc3 : (w3.alloc (.cells #[.int .i64 o, .int .i64 l, .int .i64 m, .slice A4 Qs.length c4, .int .i64 b, .int .i64 x] 31)).cell? ⟨w2.heap.size, 3, none⟩ = some (.slice A3 Qs.length c3) := Xb6.cell 3
        have Xbc4 : (w3.alloc (.cells #[.int .i64 o, .int .i64 l, .int .i64 m, .slice A4 Qs.length c4, .int .i64 b, .int .i64 x] 31)).cell? ⟨w2.heap.size, 4, none⟩ = some (.int .i64 b) := Xb6.cell 4
        have Xbc5 : (w3.alloc (.cells #[.int .i64 o, .int .i64 l, .int .i64 m, .slice A4 Qs.length c4, .int .i64 b, .int .i64 x] 31)).cell? ⟨w2.heap.size, 5, none⟩ = some (.int .i64 x) := Xb6.cell 5
        have Wbc0 : (w3.alloc (.cells #[.int .i64 o, .int .i64 l, .int .i64 m, .slice A4 Qs.length c4, .int .i64 b, .int .i64 x] 31)).cell? ⟨w3.heap.size, 0, none⟩ = some (.int .i64 o) := Wb6.cell 0
        have Wbc1 : (w3.alloc (.cells #[.int .i64 o, .int .i64 l, .int .i64 m, .slice A4 Qs.length c4, .int .i64 b, .int .i64 x] 31)).cell? ⟨w3.heap.size, 1, none⟩ = some (.int .i64 l) := Wb6.cell 1
        have Wbc2 : (w3.alloc (.cells #[.int .i64 o, .int .i64 l, .int .i64 m, .slice A4 Qs.length c4, .int .i64 b, .int .i64 x] 31)).cell? ⟨w3.heap.size, 2, none⟩ = some (.int .i64 m) := Wb6.cell 2
        have Wbc3 : (w3.alloc (.cells #[.int .i64 o, .int .i64 l, .int .i64 m, .slice A4 Qs.length c4, .int .i64 b, .int .i64 x] 31)).cell? ⟨w3.heap.size, 3, none⟩ = some (.slice A4 Qs.length c4) := Wb6.cell 3
        have Wbc4 : (w3.alloc (.cells #[.int .i64 o, .int .i64 l, .int .i64 m, .slice A4 Qs.length c4, .int .i64 b, .int .i64 x] 31)).cell? ⟨w3.heap.size, 4, none⟩ = some (.int .i64 b) := Wb6.cell 4
        have Wbc5 : (w3.alloc (.cells #[.int .i64 o, .int .i64 l, .int .i64 m, .slice A4 Qs.length c4, .int .i64 b, .int .i64 x] 31)).cell? ⟨w3.heap.size, 5, none⟩ = some (.int .i64 x) := Wb6.cell 5
        go_wp2_with fail
        refine (laws_soKnown o l m A3 A4 c3 c4 b x Qs _ (X_6.pr (Nat.le_refl _)) (W_6.pr (Nat.le_refl _)) hl2).mono ?_; rintro e w4 ⟨rfl, hb⟩
        have s7 : (w3.alloc (.cells #[.int .i64 o, .int .i64 l, .int .i64 m, .slice A4 Qs.length c4, .int .i64 b, .int .i64 x] 31)).heap.size ≤ w4.heap.size := Below.size hb
        have B7 := below_next (Nat.le_refl _) B6 hb
        have Kb7 := Kb6.below hb Kb6.lt
        have Xb7 := Xb6.below hb Xb6.lt
        have Wb7 := Wb6.below hb Wb6.lt
        have P7 := P6.below hb
        have X_7 := X_6.below hb
        have W_7 := W_6.below hb
        clear B6 Kb6 Xb6 Wb6 P6 X_6 W_6 Xbc0 Xbc1 Xbc2 Xbc3 Xbc4 Xbc5 Wbc0 Wbc1 Wbc2 Wbc3 Wbc4 Wbc5 hb
        have Kbc0 : w4.cell? ⟨w1.heap.size, 0, none⟩ = some (.int .i64 o) := Kb7.cell 0
        have Kbc1 : w4.cell? ⟨w1.heap.size, 1, none⟩ = some (.int .i64 l) := Kb7.cell 1
        have Kbc2 : w4.cell? ⟨w1.heap.size, 2, none⟩ = some (.int .i64 m) := Kb7.cell 2
        have Kbc3 : w4.cell? ⟨w1.heap.size, 3, none⟩ = some (.slice A2 ps.length c2) := Kb7.cell 3
        have Kbc4 : w4.cell? ⟨w1.heap.size, 4, none⟩ = some (.int .i64 b) := Kb7.cell 4
        have Kbc5 : w4.cell? ⟨w1.heap.size, 5, none⟩ = some (.int .i64 t) := Kb7.cell 5
        go_wp2_with fail
        refine ((unhide CC) _).mono ?_; rintro e w5 ⟨rfl, hb⟩
        have s8 : w4.heap.size ≤ w5.heap.size := Below.size hb
        have B8 := below_next (Nat.le_refl _) B7 hb
        have Kb8 := Kb7.below hb Kb7.lt
        have Xb8 := Xb7.below hb Xb7.lt
        have Wb8 := Wb7.below hb Wb7.lt
        have P8 := P7.below hb
        have X_8 := X_7.below hb
        have W_8 := W_7.below hb
        clear B7 Kb7 Xb7 Wb7 P7 X_7 W_7 Kbc0 Kbc1 Kbc2 Kbc3 Kbc4 Kbc5 hb
        obtain ⟨M, hM⟩ : ∃ M : Nat, M = more.length := ⟨_, rfl⟩
        have hln := HLN.out
        have f3 := F3.out
        rw [← hM] at hln f3
        clear hM HLN F3
        have e1 : IntKind.i64.wrap ((Qs.length : Int) - (ps.length : Int)) = (M : Int) := by rw [IntWalk.i64_in _ (by omega)]; omega
        have e1b : (Qs.length : Int) - (ps.length : Int) = (M : Int) := by omega
        have hQk : ps.length ≤ Qs.length := by omega
        clear hln
        have F3 := hide f3
        clear f3
        have Kbc0 : w5.cell? ⟨w1.heap.size, 0, none⟩ = some (.int .i64 o) := Kb8.cell 0
        have Kbc1 : w5.cell? ⟨w1.heap.size, 1, none⟩ = some (.int .i64 l) := Kb8.cell 1
        have Kbc2 : w5.cell? ⟨w1.heap.size, 2, none⟩ = some (.int .i64 m) := Kb8.cell 2
        have Kbc3 : w5.cell? ⟨w1.heap.size, 3, none⟩ = some (.slice A2 ps.length c2) := Kb8.cell 3
        have Kbc4 : w5.cell? ⟨w1.heap.size, 4, none⟩ = some (.int .i64 b) := Kb8.cell 4
        have Kbc5 : w5.cell? ⟨w1.heap.size, 5, none⟩ = some (.int .i64 t) := Kb8.cell 5
        have Xbc0 : w5.cell? ⟨w2.heap.size, 0, none⟩ = some (.int .i64 o) := Xb8.cell 0
        have Xbc1 : w5.cell? ⟨w2.heap.size, 1, none⟩ = some (.int .i64 l) := Xb8.cell 1
        have Xbc2 : w5.cell? ⟨w2.heap.size, 2, none⟩ = some (.int .i64 m) := Xb8.cell 2
        have Xbc3 : w5.cell? ⟨w2.heap.size, 3, none⟩ = some (.slice A3 Qs.length c3) := Xb8.cell 3
        have Xbc4 : w5.cell? ⟨w2.heap.size, 4, none⟩ = some (.int .i64 b) := Xb8.cell 4
        have Xbc5 : w5.cell? ⟨w2.heap.size, 5, none⟩ = some (.int .i64 x) := Xb8.cell 5
        go_wp2_with fail
        clear Kbc0 Kbc1 Kbc2 Kbc3 Kbc4 Kbc5 Xbc0 Xbc1 Xbc2 Xbc3 Xbc4 Xbc5
        go_loopw [12] (fun i wr => ∃ k : Nat, k ≤ ps.length ∧ i = .int .i64 k ∧ Below w5.heap.size w5 wr) (fun i _ => ps.length - (intOf i).toNat)
        case atStart => exact ⟨0, Nat.zero_le _, rfl, Below.refl _ _⟩
        case round =>
          obtain ⟨k, hk, rfl, hbw⟩ := hrel
          by_cases hlt : k < ps.length
          · skip
            have hp1 := (P8.below hbw).pr (Nat.le_refl _)
            have hp2 := (X_8.below hbw).pr (Nat.le_refl _)
            have d1 : wr.cell? ⟨w1.heap.size, 3, none⟩ = some (.slice A2 ps.length c2) := (Kb8.below hbw Kb8.lt).cell 3
            have d2 : wr.cell? ⟨w2.heap.size, 3, none⟩ = some (.slice A3 Qs.length c3) := (Xb8.below hbw Xb8.lt).cell 3
            obtain ⟨pg, po, e2, _, hpc⟩ := hp1 (by omega)
            obtain ⟨qg, qo, e3, _, hqc⟩ := hp2 (by omega)
            rw [e2] at d1
            rw [e3] at d2
            obtain ⟨px, hpx⟩ : ∃ x, x = (ps[k]).1 := ⟨_, rfl⟩
            obtain ⟨py, hpy⟩ : ∃ x, x = (ps[k]).2 := ⟨_, rfl⟩
            have hx := hpc k hlt
            have hy := hqc k (by omega)
            have hqe : Qs[k]'(by omega) = ps[k] := by have := hat.out k hlt; rw [List.getElem?_eq_getElem (by omega)] at this; exact Option.some.inj this
            rw [hqe] at hy
            rw [← hpx, ← hpy] at hx hy
            have s0 : Below w5.heap.size w5 wr.drew ∧ wr.drew.cell? ⟨w1.heap.size, 3, none⟩ = some (.slice (some ⟨pg, po, none⟩) ps.length c2) ∧ wr.drew.cell? ⟨w2.heap.size, 3, none⟩ = some (.slice (some ⟨qg, qo, none⟩) Qs.length c3) ∧ wr.drew.cell? ⟨pg, po + k * 2, none⟩ = some (.int .i64 px) ∧ wr.drew.cell? ⟨pg, po + k * 2 + 1, none⟩ = some (.int .i64 py) ∧ wr.drew.cell? ⟨qg, qo + k * 2, none⟩ = some (.int .i64 px) ∧ wr.drew.cell? ⟨qg, qo + k * 2 + 1, none⟩ = some (.int .i64 py) := ⟨hbw.drew, d1, d2, hx.1, hx.2, hy.1, hy.2⟩
            have i0 : (0 : Int) ≤ (k : Int) := Int.natCast_nonneg _
            have i1 : (k : Int) < (ps.length : Int) := by omega
            have i2 : (k : Int) < (Qs.length : Int) := by omega
            clear hpx hpy hx hy hpc hqc hqe hp1 hp2
            go_wp2_with fail
            refine wp_region_held_drew (S := (fun W => Below w5.heap.size w5 W ∧ W.cell? ⟨w1.heap.size, 3, none⟩ = some (.slice (some ⟨pg, po, none⟩) ps.length c2) ∧ W.cell? ⟨w2.heap.size, 3, none⟩ = some (.slice (some ⟨qg, qo, none⟩) Qs.length c3) ∧ W.cell? ⟨pg, po + k * 2, none⟩ = some (.int .i64 px) ∧ W.cell? ⟨pg, po + k * 2 + 1, none⟩ = some (.int .i64 py) ∧ W.cell? ⟨qg, qo + k * 2, none⟩ = some (.int .i64 px) ∧ W.cell? ⟨qg, qo + k * 2 + 1, none⟩ = some (.int .i64 py))) (by kernel_rfl) (by first | assumption | exact s0) (fun hHeld => ?_)
            refine wpAnyH_take (i := 0) (oi := { dst := some 107, op := Op.fieldAddr 31 (Operand.tmp 5) 1, type := 0, pos := "laws.go:346", after := #[], guard := none }) (v := ?_) rfl (by kernel_rfl) (by kernel_rfl) (by kernel_rfl) (fun _ _ _ h => h) (Or.inl ⟨by rfl, ?_⟩) (by assumption) ?_; rotate_left
            · intro W hW; (try dsimp only at hW); go_simp;  try (with_reducible rfl)
            try simp only [Act.put, List.setIfInBounds_toArray, List.set_cons_zero, List.set_cons_succ]
            refine wpAnyH_take (i := 1) (oi := { dst := some 108, op := Op.load 29 (Operand.tmp 107), type := 29, pos := "laws.go:346", after := #[{ on := 0, ground := Ground.data }], guard := none }) (v := ?_) rfl (by kernel_rfl) (by kernel_rfl) (by kernel_rfl) (fun _ _ _ h => h) (Or.inl ⟨by rfl, ?_⟩) (by assumption) ?_; rotate_left
            · intro W hW; (try dsimp only at hW); go_simp;  try (with_reducible rfl)
            try simp only [Act.put, List.setIfInBounds_toArray, List.set_cons_zero, List.set_cons_succ]
            refine wpAnyH_take (i := 2) (oi := { dst := some 109, op := Op.move (Operand.tmp 12), type := 3, pos := "laws.go:346", after := #[], guard := none }) (v := ?_) rfl (by kernel_rfl) (by kernel_rfl) (by kernel_rfl) (fun _ _ _ h => h) (Or.inl ⟨by rfl, ?_⟩) (by assumption) ?_; rotate_left
            · intro W hW; (try dsimp only at hW); go_simp;  try (with_reducible rfl)
            try simp only [Act.put, List.setIfInBounds_toArray, List.set_cons_zero, List.set_cons_succ]
            refine wpAnyH_take (i := 3) (oi := { dst := some 110, op := Op.indexAddr 29 (Operand.tmp 108) (Operand.tmp 109), type := 0, pos := "laws.go:346", after := #[{ on := 1, ground := Ground.data }, { on := 2, ground := Ground.data }], guard := none }) (v := ?_) rfl (by kernel_rfl) (by kernel_rfl) (by kernel_rfl) (fun _ _ _ h => h) (Or.inl ⟨by rfl, ?_⟩) (by assumption) ?_; rotate_left
            · intro W hW; (try dsimp only at hW); go_simp;  try (with_reducible rfl)
            try simp only [Act.put, List.setIfInBounds_toArray, List.set_cons_zero, List.set_cons_succ]
            refine wpAnyH_take (i := 4) (oi := { dst := some 111, op := Op.load 63 (Operand.tmp 110), type := 63, pos := "laws.go:346", after := #[{ on := 3, ground := Ground.data }], guard := none }) (v := ?_) rfl (by kernel_rfl) (by kernel_rfl) (by kernel_rfl) (fun _ _ _ h => h) (Or.inl ⟨by rfl, ?_⟩) (by assumption) ?_; rotate_left
            · intro W hW; (try dsimp only at hW); go_simp;  try (with_reducible rfl)
            try simp only [Act.put, List.setIfInBounds_toArray, List.set_cons_zero, List.set_cons_succ]
            refine wpAnyH_take (i := 5) (oi := { dst := some 112, op := Op.fieldAddr 31 (Operand.tmp 3) 1, type := 0, pos := "laws.go:346", after := #[], guard := none }) (v := ?_) rfl (by kernel_rfl) (by kernel_rfl) (by kernel_rfl) (fun _ _ _ h => h) (Or.inl ⟨by rfl, ?_⟩) (by assumption) ?_; rotate_left
            · intro W hW; (try dsimp only at hW); go_simp;  try (with_reducible rfl)
            try simp only [Act.put, List.setIfInBounds_toArray, List.set_cons_zero, List.set_cons_succ]
            refine wpAnyH_take (i := 6) (oi := { dst := some 113, op := Op.load 29 (Operand.tmp 112), type := 29, pos := "laws.go:346", after := #[{ on := 5, ground := Ground.data }], guard := none }) (v := ?_) rfl (by kernel_rfl) (by kernel_rfl) (by kernel_rfl) (fun _ _ _ h => h) (Or.inl ⟨by rfl, ?_⟩) (by assumption) ?_; rotate_left
            · intro W hW; (try dsimp only at hW); go_simp;  try (with_reducible rfl)
            try simp only [Act.put, List.setIfInBounds_toArray, List.set_cons_zero, List.set_cons_succ]
            refine wpAnyH_take (i := 7) (oi := { dst := some 114, op := Op.move (Operand.tmp 12), type := 3, pos := "laws.go:346", after := #[], guard := none }) (v := ?_) rfl (by kernel_rfl) (by kernel_rfl) (by kernel_rfl) (fun _ _ _ h => h) (Or.inl ⟨by rfl, ?_⟩) (by assumption) ?_; rotate_left
            · intro W hW; (try dsimp only at hW); go_simp;  try (with_reducible rfl)
            try simp only [Act.put, List.setIfInBounds_toArray, List.set_cons_zero, List.set_cons_succ]
            refine wpAnyH_take (i := 8) (oi := { dst := some 115, op := Op.indexAddr 29 (Operand.tmp 113) (Operand.tmp 114), type := 0, pos := "laws.go:346", after := #[{ on := 6, ground := Ground.data }, { on := 7, ground := Ground.data }], guard := none }) (v := ?_) rfl (by kernel_rfl) (by kernel_rfl) (by kernel_rfl) (fun _ _ _ h => h) (Or.inl ⟨by rfl, ?_⟩) (by assumption) ?_; rotate_left
            · intro W hW; (try dsimp only at hW); go_simp;  try (with_reducible rfl)
            try simp only [Act.put, List.setIfInBounds_toArray, List.set_cons_zero, List.set_cons_succ]
            refine wpAnyH_take (i := 9) (oi := { dst := some 116, op := Op.load 63 (Operand.tmp 115), type := 63, pos := "laws.go:346", after := #[{ on := 8, ground := Ground.data }], guard := none }) (v := ?_) rfl (by kernel_rfl) (by kernel_rfl) (by kernel_rfl) (fun _ _ _ h => h) (Or.inl ⟨by rfl, ?_⟩) (by assumption) ?_; rotate_left
            · intro W hW; (try dsimp only at hW); go_simp;  try (with_reducible rfl)
            try simp only [Act.put, List.setIfInBounds_toArray, List.set_cons_zero, List.set_cons_succ]
            refine wpAnyH_take (i := 10) (oi := { dst := some 117, op := Op.binOp BinOp.neq 63 (Operand.tmp 111) (Operand.tmp 116) 63, type := 4, pos := "laws.go:346", after := #[{ on := 4, ground := Ground.data }, { on := 9, ground := Ground.data }], guard := none }) (v := ?_) rfl (by kernel_rfl) (by kernel_rfl) (by kernel_rfl) (fun _ _ _ h => h) (Or.inl ⟨by rfl, ?_⟩) (by assumption) ?_; rotate_left
            · intro W hW; (try dsimp only at hW); go_simp;  try (with_reducible rfl)
            try simp only [Act.put, List.setIfInBounds_toArray, List.set_cons_zero, List.set_cons_succ]
            refine wpAnyH_done (by kernel_rfl) ?_ _
            go_wp2_with fail
            go_roundw
            case rel => exact ⟨k + 1, by omega, by go_num, hHeld.1⟩
            case measure => simp [intOf]; omega
          · skip
            obtain rfl : k = ps.length := by omega
            have s9 : w5.heap.size ≤ wr.heap.size := Below.size hbw
            have B9 := below_next (Nat.le_refl _) B8 hbw
            have Kb9 := Kb8.below hbw Kb8.lt
            have Xb9 := Xb8.below hbw Xb8.lt
            have Wb9 := Wb8.below hbw Wb8.lt
            have P9 := P8.below hbw
            have X_9 := X_8.below hbw
            have W_9 := W_8.below hbw
            clear B8 Kb8 Xb8 Wb8 P8 X_8 W_8 hbw
            cases hg : Sx.growsB l m ps.length t
            · skip
              have f3 := F3.out
              clear F3
              rw [hg] at CG f3
              have CG := hide CG
              have hM : M = 0 := by simpa using f3
              subst hM
              clear f3 hg
              have Xbc0 : wr.cell? ⟨w2.heap.size, 0, none⟩ = some (.int .i64 o) := Xb9.cell 0
              have Xbc1 : wr.cell? ⟨w2.heap.size, 1, none⟩ = some (.int .i64 l) := Xb9.cell 1
              have Xbc2 : wr.cell? ⟨w2.heap.size, 2, none⟩ = some (.int .i64 m) := Xb9.cell 2
              have Xbc3 : wr.cell? ⟨w2.heap.size, 3, none⟩ = some (.slice A3 Qs.length c3) := Xb9.cell 3
              have Xbc4 : wr.cell? ⟨w2.heap.size, 4, none⟩ = some (.int .i64 b) := Xb9.cell 4
              have Xbc5 : wr.cell? ⟨w2.heap.size, 5, none⟩ = some (.int .i64 x) := Xb9.cell 5
              have Kbc0 : wr.cell? ⟨w1.heap.size, 0, none⟩ = some (.int .i64 o) := Kb9.cell 0
              have Kbc1 : wr.cell? ⟨w1.heap.size, 1, none⟩ = some (.int .i64 l) := Kb9.cell 1
              have Kbc2 : wr.cell? ⟨w1.heap.size, 2, none⟩ = some (.int .i64 m) := Kb9.cell 2
              have Kbc3 : wr.cell? ⟨w1.heap.size, 3, none⟩ = some (.slice A2 ps.length c2) := Kb9.cell 3
              have Kbc4 : wr.cell? ⟨w1.heap.size, 4, none⟩ = some (.int .i64 b) := Kb9.cell 4
              have Kbc5 : wr.cell? ⟨w1.heap.size, 5, none⟩ = some (.int .i64 t) := Kb9.cell 5
              go_wp2_with fail
              refine ((unhide CK) _ _ _ (X_9.pr (Nat.le_refl _))).mono ?_; rintro e w6 ⟨rfl, hb⟩
              have s10 : wr.heap.size ≤ w6.heap.size := Below.size hb
              have B10 := below_next (Nat.le_refl _) B9 hb
              have Kb10 := Kb9.below hb Kb9.lt
              have Xb10 := Xb9.below hb Xb9.lt
              have Wb10 := Wb9.below hb Wb9.lt
              have P10 := P9.below hb
              have X_10 := X_9.below hb
              have W_10 := W_9.below hb
              clear B9 Kb9 Xb9 Wb9 P9 X_9 W_9 Xbc0 Xbc1 Xbc2 Xbc3 Xbc4 Xbc5 Kbc0 Kbc1 Kbc2 Kbc3 Kbc4 Kbc5 hb
              have Xbc0 : w6.cell? ⟨w2.heap.size, 0, none⟩ = some (.int .i64 o) := Xb10.cell 0
              have Xbc1 : w6.cell? ⟨w2.heap.size, 1, none⟩ = some (.int .i64 l) := Xb10.cell 1
              have Xbc2 : w6.cell? ⟨w2.heap.size, 2, none⟩ = some (.int .i64 m) := Xb10.cell 2
              have Xbc3 : w6.cell? ⟨w2.heap.size, 3, none⟩ = some (.slice A3 Qs.length c3) := Xb10.cell 3
              have Xbc4 : w6.cell? ⟨w2.heap.size, 4, none⟩ = some (.int .i64 b) := Xb10.cell 4
              have Xbc5 : w6.cell? ⟨w2.heap.size, 5, none⟩ = some (.int .i64 x) := Xb10.cell 5
              have Kbc0 : w6.cell? ⟨w1.heap.size, 0, none⟩ = some (.int .i64 o) := Kb10.cell 0
              have Kbc1 : w6.cell? ⟨w1.heap.size, 1, none⟩ = some (.int .i64 l) := Kb10.cell 1
              have Kbc2 : w6.cell? ⟨w1.heap.size, 2, none⟩ = some (.int .i64 m) := Kb10.cell 2
              have Kbc3 : w6.cell? ⟨w1.heap.size, 3, none⟩ = some (.slice A2 ps.length c2) := Kb10.cell 3
              have Kbc4 : w6.cell? ⟨w1.heap.size, 4, none⟩ = some (.int .i64 b) := Kb10.cell 4
              have Kbc5 : w6.cell? ⟨w1.heap.size, 5, none⟩ = some (.int .i64 t) := Kb10.cell 5
              go_wp2_with fail
              refine ((unhide CG) _ (P10.pr (Nat.le_refl _))).mono ?_; rintro e w7 ⟨rfl, hb⟩
              have s11 : w6.heap.size ≤ w7.heap.size := Below.size hb
              have B11 := below_next (Nat.le_refl _) B10 hb
              have Kb11 := Kb10.below hb Kb10.lt
              have Xb11 := Xb10.below hb Xb10.lt
              have Wb11 := Wb10.below hb Wb10.lt
              have P11 := P10.below hb
              have X_11 := X_10.below hb
              have W_11 := W_10.below hb
              clear B10 Kb10 Xb10 Wb10 P10 X_10 W_10 Xbc0 Xbc1 Xbc2 Xbc3 Xbc4 Xbc5 Kbc0 Kbc1 Kbc2 Kbc3 Kbc4 Kbc5 hb
              have Xbc0 : w7.cell? ⟨w2.heap.size, 0, none⟩ = some (.int .i64 o) := Xb11.cell 0
              have Xbc1 : w7.cell? ⟨w2.heap.size, 1, none⟩ = some (.int .i64 l) := Xb11.cell 1
              have Xbc2 : w7.cell? ⟨w2.heap.size, 2, none⟩ = some (.int .i64 m) := Xb11.cell 2
              have Xbc3 : w7.cell? ⟨w2.heap.size, 3, none⟩ = some (.slice A3 Qs.length c3) := Xb11.cell 3
              have Xbc4 : w7.cell? ⟨w2.heap.size, 4, none⟩ = some (.int .i64 b) := Xb11.cell 4
              have Xbc5 : w7.cell? ⟨w2.heap.size, 5, none⟩ = some (.int .i64 x) := Xb11.cell 5
              have Kbc0 : w7.cell? ⟨w1.heap.size, 0, none⟩ = some (.int .i64 o) := Kb11.cell 0
              have Kbc1 : w7.cell? ⟨w1.heap.size, 1, none⟩ = some (.int .i64 l) := Kb11.cell 1
              have Kbc2 : w7.cell? ⟨w1.heap.size, 2, none⟩ = some (.int .i64 m) := Kb11.cell 2
              have Kbc3 : w7.cell? ⟨w1.heap.size, 3, none⟩ = some (.slice A2 ps.length c2) := Kb11.cell 3
              have Kbc4 : w7.cell? ⟨w1.heap.size, 4, none⟩ = some (.int .i64 b) := Kb11.cell 4
              have Kbc5 : w7.cell? ⟨w1.heap.size, 5, none⟩ = some (.int .i64 t) := Kb11.cell 5
              go_wp2_with fail
              refine ((unhide CG) _ (P11.pr (Nat.le_refl _))).mono ?_; rintro e w8 ⟨rfl, hb⟩
              have s12 : w7.heap.size ≤ w8.heap.size := Below.size hb
              have B12 := below_next (Nat.le_refl _) B11 hb
              have Kb12 := Kb11.below hb Kb11.lt
              have Xb12 := Xb11.below hb Xb11.lt
              have Wb12 := Wb11.below hb Wb11.lt
              have P12 := P11.below hb
              have X_12 := X_11.below hb
              have W_12 := W_11.below hb
              clear B11 Kb11 Xb11 Wb11 P11 X_11 W_11 Xbc0 Xbc1 Xbc2 Xbc3 Xbc4 Xbc5 Kbc0 Kbc1 Kbc2 Kbc3 Kbc4 Kbc5 hb
              go_wp2_with fail
              go_ret
              exact ⟨rfl, B12⟩
            · skip
              have f3 := F3.out
              clear F3
              rw [hg] at CG f3
              have CG := hide CG
              have hM : M = 1 := by simpa using f3
              subst hM
              clear f3 hg
              have Xbc0 : wr.cell? ⟨w2.heap.size, 0, none⟩ = some (.int .i64 o) := Xb9.cell 0
              have Xbc1 : wr.cell? ⟨w2.heap.size, 1, none⟩ = some (.int .i64 l) := Xb9.cell 1
              have Xbc2 : wr.cell? ⟨w2.heap.size, 2, none⟩ = some (.int .i64 m) := Xb9.cell 2
              have Xbc3 : wr.cell? ⟨w2.heap.size, 3, none⟩ = some (.slice A3 Qs.length c3) := Xb9.cell 3
              have Xbc4 : wr.cell? ⟨w2.heap.size, 4, none⟩ = some (.int .i64 b) := Xb9.cell 4
              have Xbc5 : wr.cell? ⟨w2.heap.size, 5, none⟩ = some (.int .i64 x) := Xb9.cell 5
              have Kbc0 : wr.cell? ⟨w1.heap.size, 0, none⟩ = some (.int .i64 o) := Kb9.cell 0
              have Kbc1 : wr.cell? ⟨w1.heap.size, 1, none⟩ = some (.int .i64 l) := Kb9.cell 1
              have Kbc2 : wr.cell? ⟨w1.heap.size, 2, none⟩ = some (.int .i64 m) := Kb9.cell 2
              have Kbc3 : wr.cell? ⟨w1.heap.size, 3, none⟩ = some (.slice A2 ps.length c2) := Kb9.cell 3
              have Kbc4 : wr.cell? ⟨w1.heap.size, 4, none⟩ = some (.int .i64 b) := Kb9.cell 4
              have Kbc5 : wr.cell? ⟨w1.heap.size, 5, none⟩ = some (.int .i64 t) := Kb9.cell 5
              go_wp2_with fail
              refine ((unhide CK) _ _ _ (X_9.pr (Nat.le_refl _))).mono ?_; rintro e w6 ⟨rfl, hb⟩
              have s10 : wr.heap.size ≤ w6.heap.size := Below.size hb
              have B10 := below_next (Nat.le_refl _) B9 hb
              have Kb10 := Kb9.below hb Kb9.lt
              have Xb10 := Xb9.below hb Xb9.lt
              have Wb10 := Wb9.below hb Wb9.lt
              have P10 := P9.below hb
              have X_10 := X_9.below hb
              have W_10 := W_9.below hb
              clear B9 Kb9 Xb9 Wb9 P9 X_9 W_9 Xbc0 Xbc1 Xbc2 Xbc3 Xbc4 Xbc5 Kbc0 Kbc1 Kbc2 Kbc3 Kbc4 Kbc5 hb
              have Xbc0 : w6.cell? ⟨w2.heap.size, 0, none⟩ = some (.int .i64 o) := Xb10.cell 0
              have Xbc1 : w6.cell? ⟨w2.heap.size, 1, none⟩ = some (.int .i64 l) := Xb10.cell 1
              have Xbc2 : w6.cell? ⟨w2.heap.size, 2, none⟩ = some (.int .i64 m) := Xb10.cell 2
              have Xbc3 : w6.cell? ⟨w2.heap.size, 3, none⟩ = some (.slice A3 Qs.length c3) := Xb10.cell 3
              have Xbc4 : w6.cell? ⟨w2.heap.size, 4, none⟩ = some (.int .i64 b) := Xb10.cell 4
              have Xbc5 : w6.cell? ⟨w2.heap.size, 5, none⟩ = some (.int .i64 x) := Xb10.cell 5
              have Kbc0 : w6.cell? ⟨w1.heap.size, 0, none⟩ = some (.int .i64 o) := Kb10.cell 0
              have Kbc1 : w6.cell? ⟨w1.heap.size, 1, none⟩ = some (.int .i64 l) := Kb10.cell 1
              have Kbc2 : w6.cell? ⟨w1.heap.size, 2, none⟩ = some (.int .i64 m) := Kb10.cell 2
              have Kbc3 : w6.cell? ⟨w1.heap.size, 3, none⟩ = some (.slice A2 ps.length c2) := Kb10.cell 3
              have Kbc4 : w6.cell? ⟨w1.heap.size, 4, none⟩ = some (.int .i64 b) := Kb10.cell 4
              have Kbc5 : w6.cell? ⟨w1.heap.size, 5, none⟩ = some (.int .i64 t) := Kb10.cell 5
              go_wp2_with fail
              refine ((unhide CG) _ (P10.pr (Nat.le_refl _))).mono ?_; rintro e w7 ⟨rfl, hb⟩
              have s11 : w6.heap.size ≤ w7.heap.size := Below.size hb
              have B11 := below_next (Nat.le_refl _) B10 hb
              have Kb11 := Kb10.below hb Kb10.lt
              have Xb11 := Xb10.below hb Xb10.lt
              have Wb11 := Wb10.below hb Wb10.lt
              have P11 := P10.below hb
              have X_11 := X_10.below hb
              have W_11 := W_10.below hb
              clear B10 Kb10 Xb10 Wb10 P10 X_10 W_10 Xbc0 Xbc1 Xbc2 Xbc3 Xbc4 Xbc5 Kbc0 Kbc1 Kbc2 Kbc3 Kbc4 Kbc5 hb
              have Xbc0 : w7.cell? ⟨w2.heap.size, 0, none⟩ = some (.int .i64 o) := Xb11.cell 0
              have Xbc1 : w7.cell? ⟨w2.heap.size, 1, none⟩ = some (.int .i64 l) := Xb11.cell 1
              have Xbc2 : w7.cell? ⟨w2.heap.size, 2, none⟩ = some (.int .i64 m) := Xb11.cell 2
              have Xbc3 : w7.cell? ⟨w2.heap.size, 3, none⟩ = some (.slice A3 Qs.length c3) := Xb11.cell 3
              have Xbc4 : w7.cell? ⟨w2.heap.size, 4, none⟩ = some (.int .i64 b) := Xb11.cell 4
              have Xbc5 : w7.cell? ⟨w2.heap.size, 5, none⟩ = some (.int .i64 x) := Xb11.cell 5
              have Kbc0 : w7.cell? ⟨w1.heap.size, 0, none⟩ = some (.int .i64 o) := Kb11.cell 0
              have Kbc1 : w7.cell? ⟨w1.heap.size, 1, none⟩ = some (.int .i64 l) := Kb11.cell 1
              have Kbc2 : w7.cell? ⟨w1.heap.size, 2, none⟩ = some (.int .i64 m) := Kb11.cell 2
              have Kbc3 : w7.cell? ⟨w1.heap.size, 3, none⟩ = some (.slice A2 ps.length c2) := Kb11.cell 3
              have Kbc4 : w7.cell? ⟨w1.heap.size, 4, none⟩ = some (.int .i64 b) := Kb11.cell 4
              have Kbc5 : w7.cell? ⟨w1.heap.size, 5, none⟩ = some (.int .i64 t) := Kb11.cell 5
              go_wp2_with fail
              refine ((unhide CG) _ (P11.pr (Nat.le_refl _))).mono ?_; rintro e w8 ⟨rfl, hb⟩
              have s12 : w7.heap.size ≤ w8.heap.size := Below.size hb
              have B12 := below_next (Nat.le_refl _) B11 hb
              have Kb12 := Kb11.below hb Kb11.lt
              have Xb12 := Xb11.below hb Xb11.lt
              have Wb12 := Wb11.below hb Wb11.lt
              have P12 := P11.below hb
              have X_12 := X_11.below hb
              have W_12 := W_11.below hb
              clear B11 Kb11 Xb11 Wb11 P11 X_11 W_11 Xbc0 Xbc1 Xbc2 Xbc3 Xbc4 Xbc5 Kbc0 Kbc1 Kbc2 Kbc3 Kbc4 Kbc5 hb
              go_wp2_with fail
              go_ret
              exact ⟨rfl, B12⟩
  · have B0 : Below w.heap.size w w := Below.refl _ _
    have hnI : (1048576 : Int) < (n : Int) := by omega
    go_enter Try.func12, Try.ntmps12
    go_wp2_with fail
    go_ret
    exact ⟨rfl, B0⟩

end Go.Proofs.Ytegfcpdkehgdpaa

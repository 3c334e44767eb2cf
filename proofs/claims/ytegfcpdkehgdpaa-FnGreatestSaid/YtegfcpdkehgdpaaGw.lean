/- The walks of FnWidth and FnGreatest. Conditions: a slice of bytes. -/
import Derived.Test.YtegfcpdkehgdpaaDk4
import Derived.Test.YtegfcpdkehgdpaaSo
namespace Go.Proofs.Ytegfcpdkehgdpaa
open Go.RowKit

theorem Sx.width_is {o l m b t : Int} {ps : List (Int × Int)} (h : Sx.kOK o l m ps b t = true) : ∃ N G : Int, Sx.widthI l m ps.length t = N ∧ Sx.greatI l m ps.length t = G ∧ 0 ≤ G ∧ G ≤ 1100 ∧ l + 1 ≤ N ∧ N ≤ m ∧ Sx.needI G ≤ N ∧ (N = l + 1 ∨ (N ≠ l + 1 ∧ Sx.needI G = N)) := by
  obtain ⟨k0, k1, k2, k3, k4⟩ := Sx.kOK_of h
  obtain ⟨n0, n1, n2, n3, n4, n5⟩ := Sx.kOK_nums h
  have t1 := Sx.two_pos l
  have t2 := Sx.two_byte n1
  have t3 := Sx.two_lit (l := m) n3
  have hb := Sx.great_bd l m ps.length t
  have hg : Sx.greatI l m ps.length t ≤ Sx.two m - 1 := by
    cases hg : Sx.growsB l m ps.length t
    · rw [Sx.great_no hg]; omega
    · rw [Sx.great_yes hg]; have := (Sx.grows_of hg).2; omega
  have hle := Sx.needI_le (x := Sx.greatI l m ps.length t) (k := m) (by omega) (by omega) (by omega)
  refine ⟨_, _, rfl, rfl, by omega, by omega, ?_⟩
  unfold Sx.widthI
  omega
theorem Sx.width_yes {o l m b t : Int} {ps : List (Int × Int)} (h : Sx.kOK o l m ps b t = true) : Sx.widthS o l m ps b t = Sx.widthI l m ps.length t := if_pos h
theorem Sx.width_no {o l m b t : Int} {ps : List (Int × Int)} (h : Sx.kOK o l m ps b t = false) : Sx.widthS o l m ps b t = -1 := if_neg (by simp [h])
theorem Sx.greatS_yes {o l m b t : Int} {ps : List (Int × Int)} (h : Sx.kOK o l m ps b t = true) : Sx.greatS o l m ps b t = Sx.greatI l m ps.length t := if_pos h
theorem Sx.greatS_no {o l m b t : Int} {ps : List (Int × Int)} (h : Sx.kOK o l m ps b t = false) : Sx.greatS o l m ps b t = -1 := if_neg (by simp [h])
theorem Sx.nextS_yes {o l m b t : Int} {ps : List (Int × Int)} (h : Sx.kOK o l m ps b t = true) : Sx.nextS o l m ps b t = Sx.two l + 2 + (ps.length : Int) := if_pos h
/-- The code of the next word can follow just where a word is added. -/
theorem Sx.next_can {o l m b t : Int} {ps : List (Int × Int)} (h : Sx.kOK o l m ps b t = true) : Sx.wordOK o l m ps b t (Sx.two l + 2 + (ps.length : Int)) = Sx.growsB l m ps.length t := by
  have t1 := Sx.two_pos l
  have hc : Sx.codeB l ps.length (Sx.two l + 2 + (ps.length : Int)) = false := by
    simp only [Sx.codeB, Bool.or_eq_false_iff, decide_eq_false_iff_not]; omega
  simp [Sx.wordOK, h, Sx.canB, hc]

set_option maxRecDepth 100000 in
set_option maxHeartbeats 4000000 in
theorem law_FnWidth (A : Option Addr) (n c : Nat) (w : World) (h : Src w w.heap.size A n) (hc : n ≤ c) (hcm : c ≤ maxLen) :
    Calls Try.prog 11 #[.slice A n c] w fun e w' => e = .returned (.bool true) ∧ Below w.heap.size w w' := by
  by_cases hn : n ≤ 1048576
  · have HD := hide (draw_Width A n c w h hn hc hcm)
    have B0 : Below w.heap.size w w := Below.refl _ _
    clear h
    go_enter Try.func11, Try.ntmps11
    go_wp2_with fail
    refine ((unhide HD)).mono ?_; rintro e w1 ⟨o, l, m, A2, c2, b, t, ps, rfl, hl, hcp, P0, hb⟩
    have s1 : w.heap.size ≤ w1.heap.size := Below.size hb
    have B1 := below_next (Nat.le_refl _) B0 hb
    clear B0 hb
    clear HD
    have P1 := OwnV.pairs P0
    clear P0
    have s2 : (w1.alloc (.cells #[.int .i64 o, .int .i64 l, .int .i64 m, .slice A2 ps.length c2, .int .i64 b, .int .i64 t] 31)).heap.size = w1.heap.size + 1 := World.size_alloc _ _
    have B2 := B1.alloc B1.size (.cells #[.int .i64 o, .int .i64 l, .int .i64 m, .slice A2 ps.length c2, .int .i64 b, .int .i64 t] 31)
    have P2 := P1.alloc (.cells #[.int .i64 o, .int .i64 l, .int .i64 m, .slice A2 ps.length c2, .int .i64 b, .int .i64 t] 31)
    have Kb2 := Blk.new w1 31 #[.int .i64 o, .int .i64 l, .int .i64 m, .slice A2 ps.length c2, .int .i64 b, .int .i64 t]
    clear B1 P1
    cases hk : Sx.kOK o l m ps b t
    · skip
      have CK := hide (fun (wx : World) (hp : PR wx wx.heap.size A2 ps) => by have := impl_KnownValid o l m A2 c2 b t ps wx hp (by omega); rwa [hk] at this)
      have CI := hide (fun (wx : World) (hp : PR wx wx.heap.size A2 ps) => by have := impl_Width o l m A2 c2 b t ps wx hp (by omega); rwa [Sx.width_no hk] at this)
      have CS := hide (fun (wx : World) (hp : PR wx wx.heap.size A2 ps) => by have := spec_Width o l m A2 c2 b t ps wx hp (by omega); rwa [Sx.width_no hk] at this)
      clear hk
      have Kbc0 : (w1.alloc (.cells #[.int .i64 o, .int .i64 l, .int .i64 m, .slice A2 ps.length c2, .int .i64 b, .int .i64 t] 31)).cell? ⟨w1.heap.size, 0, none⟩ = some (.int .i64 o) := Kb2.cell 0
      have Kbc1 : (w1.alloc (.cells #[.int .i64 o, .int .i64 l, .int .i64 m, .slice A2 ps.length c2, .int .i64 b, .int .i64 t] 31)).cell? ⟨w1.heap.size, 1, none⟩ = some (.int .i64 l) := Kb2.cell 1
      have Kbc2 : (w1.alloc (.cells #[.int .i64 o, .int .i64 l, .int .i64 m, .slice A2 ps.length c2, .int .i64 b, .int .i64 t] 31)).cell? ⟨w1.heap.size, 2, none⟩ = some (.int .i64 m) := Kb2.cell 2
      have Kbc3 : (w1.alloc (.cells #[.int .i64 o, .int .i64 l, .int .i64 m, .slice A2 ps.length c2, .int .i64 b, .int .i64 t] 31)).cell? ⟨w1.heap.size, 3, none⟩ = some (.slice A2 ps.length c2) := Kb2.cell 3
      have Kbc4 : (w1.alloc (.cells #[.int .i64 o, .int .i64 l, .int .i64 m, .slice A2 ps.length c2, .int .i64 b, .int .i64 t] 31)).cell? ⟨w1.heap.size, 4, none⟩ = some (.int .i64 b) := Kb2.cell 4
      have Kbc5 : (w1.alloc (.cells #[.int .i64 o, .int .i64 l, .int .i64 m, .slice A2 ps.length c2, .int .i64 b, .int .i64 t] 31)).cell? ⟨w1.heap.size, 5, none⟩ = some (.int .i64 t) := Kb2.cell 5
      go_wp2_with fail
      refine ((unhide CI) _ (P2.pr (Nat.le_refl _))).mono ?_; rintro e w2 ⟨rfl, hb⟩
      have s3 : (w1.alloc (.cells #[.int .i64 o, .int .i64 l, .int .i64 m, .slice A2 ps.length c2, .int .i64 b, .int .i64 t] 31)).heap.size ≤ w2.heap.size := Below.size hb
      have B3 := below_next (Nat.le_refl _) B2 hb
      have Kb3 := Kb2.below hb Kb2.lt
      have P3 := P2.below hb
      clear B2 Kb2 P2 Kbc0 Kbc1 Kbc2 Kbc3 Kbc4 Kbc5 hb
      have Kbc0 : w2.cell? ⟨w1.heap.size, 0, none⟩ = some (.int .i64 o) := Kb3.cell 0
      have Kbc1 : w2.cell? ⟨w1.heap.size, 1, none⟩ = some (.int .i64 l) := Kb3.cell 1
      have Kbc2 : w2.cell? ⟨w1.heap.size, 2, none⟩ = some (.int .i64 m) := Kb3.cell 2
      have Kbc3 : w2.cell? ⟨w1.heap.size, 3, none⟩ = some (.slice A2 ps.length c2) := Kb3.cell 3
      have Kbc4 : w2.cell? ⟨w1.heap.size, 4, none⟩ = some (.int .i64 b) := Kb3.cell 4
      have Kbc5 : w2.cell? ⟨w1.heap.size, 5, none⟩ = some (.int .i64 t) := Kb3.cell 5
      go_wp2_with fail
      refine ((unhide CS) _ (P3.pr (Nat.le_refl _))).mono ?_; rintro e w3 ⟨rfl, hb⟩
      have s4 : w2.heap.size ≤ w3.heap.size := Below.size hb
      have B4 := below_next (Nat.le_refl _) B3 hb
      have Kb4 := Kb3.below hb Kb3.lt
      have P4 := P3.below hb
      clear B3 Kb3 P3 Kbc0 Kbc1 Kbc2 Kbc3 Kbc4 Kbc5 hb
      have Kbc0 : w3.cell? ⟨w1.heap.size, 0, none⟩ = some (.int .i64 o) := Kb4.cell 0
      have Kbc1 : w3.cell? ⟨w1.heap.size, 1, none⟩ = some (.int .i64 l) := Kb4.cell 1
      have Kbc2 : w3.cell? ⟨w1.heap.size, 2, none⟩ = some (.int .i64 m) := Kb4.cell 2
      have Kbc3 : w3.cell? ⟨w1.heap.size, 3, none⟩ = some (.slice A2 ps.length c2) := Kb4.cell 3
      have Kbc4 : w3.cell? ⟨w1.heap.size, 4, none⟩ = some (.int .i64 b) := Kb4.cell 4
      have Kbc5 : w3.cell? ⟨w1.heap.size, 5, none⟩ = some (.int .i64 t) := Kb4.cell 5
      go_wp2_with fail
      refine ((unhide CK) _ (P4.pr (Nat.le_refl _))).mono ?_; rintro e w4 ⟨rfl, hb⟩
      have s5 : w3.heap.size ≤ w4.heap.size := Below.size hb
      have B5 := below_next (Nat.le_refl _) B4 hb
      have Kb5 := Kb4.below hb Kb4.lt
      have P5 := P4.below hb
      clear B4 Kb4 P4 Kbc0 Kbc1 Kbc2 Kbc3 Kbc4 Kbc5 hb
      have Kbc0 : w4.cell? ⟨w1.heap.size, 0, none⟩ = some (.int .i64 o) := Kb5.cell 0
      have Kbc1 : w4.cell? ⟨w1.heap.size, 1, none⟩ = some (.int .i64 l) := Kb5.cell 1
      have Kbc2 : w4.cell? ⟨w1.heap.size, 2, none⟩ = some (.int .i64 m) := Kb5.cell 2
      have Kbc3 : w4.cell? ⟨w1.heap.size, 3, none⟩ = some (.slice A2 ps.length c2) := Kb5.cell 3
      have Kbc4 : w4.cell? ⟨w1.heap.size, 4, none⟩ = some (.int .i64 b) := Kb5.cell 4
      have Kbc5 : w4.cell? ⟨w1.heap.size, 5, none⟩ = some (.int .i64 t) := Kb5.cell 5
      go_wp2_with fail
      refine ((unhide CS) _ (P5.pr (Nat.le_refl _))).mono ?_; rintro e w5 ⟨rfl, hb⟩
      have s6 : w4.heap.size ≤ w5.heap.size := Below.size hb
      have B6 := below_next (Nat.le_refl _) B5 hb
      have Kb6 := Kb5.below hb Kb5.lt
      have P6 := P5.below hb
      clear B5 Kb5 P5 Kbc0 Kbc1 Kbc2 Kbc3 Kbc4 Kbc5 hb
      have Kbc0 : w5.cell? ⟨w1.heap.size, 0, none⟩ = some (.int .i64 o) := Kb6.cell 0
      have Kbc1 : w5.cell? ⟨w1.heap.size, 1, none⟩ = some (.int .i64 l) := Kb6.cell 1
      have Kbc2 : w5.cell? ⟨w1.heap.size, 2, none⟩ = some (.int .i64 m) := Kb6.cell 2
      have Kbc3 : w5.cell? ⟨w1.heap.size, 3, none⟩ = some (.slice A2 ps.length c2) := Kb6.cell 3
      have Kbc4 : w5.cell? ⟨w1.heap.size, 4, none⟩ = some (.int .i64 b) := Kb6.cell 4
      have Kbc5 : w5.cell? ⟨w1.heap.size, 5, none⟩ = some (.int .i64 t) := Kb6.cell 5
      go_wp2_with fail
      refine ((unhide CK) _ (P6.pr (Nat.le_refl _))).mono ?_; rintro e w6 ⟨rfl, hb⟩
      have s7 : w5.heap.size ≤ w6.heap.size := Below.size hb
      have B7 := below_next (Nat.le_refl _) B6 hb
      have Kb7 := Kb6.below hb Kb6.lt
      have P7 := P6.below hb
      clear B6 Kb6 P6 Kbc0 Kbc1 Kbc2 Kbc3 Kbc4 Kbc5 hb
      go_wp2_with fail
      go_ret
      exact ⟨rfl, B7⟩
    · skip
      obtain ⟨n0, n1, n2, n3, n4, n5⟩ := Sx.kOK_nums hk
      obtain ⟨N, G, hN, hG, g0, g1, N0, N1, N2, N3⟩ := Sx.width_is hk
      have CK := hide (fun (wx : World) (hp : PR wx wx.heap.size A2 ps) => by have := impl_KnownValid o l m A2 c2 b t ps wx hp (by omega); rwa [hk] at this)
      have CI := hide (fun (wx : World) (hp : PR wx wx.heap.size A2 ps) => by have := impl_Width o l m A2 c2 b t ps wx hp (by omega); rwa [Sx.width_yes hk, hN] at this)
      have CS := hide (fun (wx : World) (hp : PR wx wx.heap.size A2 ps) => by have := spec_Width o l m A2 c2 b t ps wx hp (by omega); rwa [Sx.width_yes hk, hN] at this)
      have CG := hide (fun (wx : World) (hp : PR wx wx.heap.size A2 ps) => by have := impl_Greatest o l m A2 c2 b t ps wx hp (by omega); rwa [Sx.greatS_yes hk, hG] at this)
      have CB := fun wx => impl_BitsNeeded G wx (by omega) (by omega)
      have e1 : IntKind.i64.wrap (l + 1) = l + 1 := IntWalk.i64_in _ (by omega)
      have v0 : ¬ N < 0 := by omega
      have v1 : 0 < N := by omega
      clear hk hN hG
      have Kbc0 : (w1.alloc (.cells #[.int .i64 o, .int .i64 l, .int .i64 m, .slice A2 ps.length c2, .int .i64 b, .int .i64 t] 31)).cell? ⟨w1.heap.size, 0, none⟩ = some (.int .i64 o) := Kb2.cell 0
      have Kbc1 : (w1.alloc (.cells #[.int .i64 o, .int .i64 l, .int .i64 m, .slice A2 ps.length c2, .int .i64 b, .int .i64 t] 31)).cell? ⟨w1.heap.size, 1, none⟩ = some (.int .i64 l) := Kb2.cell 1
      have Kbc2 : (w1.alloc (.cells #[.int .i64 o, .int .i64 l, .int .i64 m, .slice A2 ps.length c2, .int .i64 b, .int .i64 t] 31)).cell? ⟨w1.heap.size, 2, none⟩ = some (.int .i64 m) := Kb2.cell 2
      have Kbc3 : (w1.alloc (.cells #[.int .i64 o, .int .i64 l, .int .i64 m, .slice A2 ps.length c2, .int .i64 b, .int .i64 t] 31)).cell? ⟨w1.heap.size, 3, none⟩ = some (.slice A2 ps.length c2) := Kb2.cell 3
      have Kbc4 : (w1.alloc (.cells #[.int .i64 o, .int .i64 l, .int .i64 m, .slice A2 ps.length c2, .int .i64 b, .int .i64 t] 31)).cell? ⟨w1.heap.size, 4, none⟩ = some (.int .i64 b) := Kb2.cell 4
      have Kbc5 : (w1.alloc (.cells #[.int .i64 o, .int .i64 l, .int .i64 m, .slice A2 ps.length c2, .int .i64 b, .int .i64 t] 31)).cell? ⟨w1.heap.size, 5, none⟩ = some (.int .i64 t) := Kb2.cell 5
      go_wp2_with fail
      refine ((unhide CI) _ (P2.pr (Nat.le_refl _))).mono ?_; rintro e w2 ⟨rfl, hb⟩
      have s3 : (w1.alloc (.cells #[.int .i64 o, .int .i64 l, .int .i64 m, .slice A2 ps.length c2, .int .i64 b, .int .i64 t] 31)).heap.size ≤ w2.heap.size := Below.size hb
      have B3 := below_next (Nat.le_refl _) B2 hb
      have Kb3 := Kb2.below hb Kb2.lt
      have P3 := P2.below hb
      clear B2 Kb2 P2 Kbc0 Kbc1 Kbc2 Kbc3 Kbc4 Kbc5 hb
      have Kbc0 : w2.cell? ⟨w1.heap.size, 0, none⟩ = some (.int .i64 o) := Kb3.cell 0
      have Kbc1 : w2.cell? ⟨w1.heap.size, 1, none⟩ = some (.int .i64 l) := Kb3.cell 1
      have Kbc2 : w2.cell? ⟨w1.heap.size, 2, none⟩ = some (.int .i64 m) := Kb3.cell 2
      have Kbc3 : w2.cell? ⟨w1.heap.size, 3, none⟩ = some (.slice A2 ps.length c2) := Kb3.cell 3
      have Kbc4 : w2.cell? ⟨w1.heap.size, 4, none⟩ = some (.int .i64 b) := Kb3.cell 4
      have Kbc5 : w2.cell? ⟨w1.heap.size, 5, none⟩ = some (.int .i64 t) := Kb3.cell 5
      go_wp2_with fail
      refine ((unhide CS) _ (P3.pr (Nat.le_refl _))).mono ?_; rintro e w3 ⟨rfl, hb⟩
      have s4 : w2.heap.size ≤ w3.heap.size := Below.size hb
      have B4 := below_next (Nat.le_refl _) B3 hb
      have Kb4 := Kb3.below hb Kb3.lt
      have P4 := P3.below hb
      clear B3 Kb3 P3 Kbc0 Kbc1 Kbc2 Kbc3 Kbc4 Kbc5 hb
      have Kbc0 : w3.cell? ⟨w1.heap.size, 0, none⟩ = some (.int .i64 o) := Kb4.cell 0
      have Kbc1 : w3.cell? ⟨w1.heap.size, 1, none⟩ = some (.int .i64 l) := Kb4.cell 1
      have Kbc2 : w3.cell? ⟨w1.heap.size, 2, none⟩ = some (.int .i64 m) := Kb4.cell 2
      have Kbc3 : w3.cell? ⟨w1.heap.size, 3, none⟩ = some (.slice A2 ps.length c2) := Kb4.cell 3
      have Kbc4 : w3.cell? ⟨w1.heap.size, 4, none⟩ = some (.int .i64 b) := Kb4.cell 4
      have Kbc5 : w3.cell? ⟨w1.heap.size, 5, none⟩ = some (.int .i64 t) := Kb4.cell 5
      go_wp2_with fail
      refine ((unhide CK) _ (P4.pr (Nat.le_refl _))).mono ?_; rintro e w4 ⟨rfl, hb⟩
      have s5 : w3.heap.size ≤ w4.heap.size := Below.size hb
      have B5 := below_next (Nat.le_refl _) B4 hb
      have Kb5 := Kb4.below hb Kb4.lt
      have P5 := P4.below hb
      clear B4 Kb4 P4 Kbc0 Kbc1 Kbc2 Kbc3 Kbc4 Kbc5 hb
      have Kbc0 : w4.cell? ⟨w1.heap.size, 0, none⟩ = some (.int .i64 o) := Kb5.cell 0
      have Kbc1 : w4.cell? ⟨w1.heap.size, 1, none⟩ = some (.int .i64 l) := Kb5.cell 1
      have Kbc2 : w4.cell? ⟨w1.heap.size, 2, none⟩ = some (.int .i64 m) := Kb5.cell 2
      have Kbc3 : w4.cell? ⟨w1.heap.size, 3, none⟩ = some (.slice A2 ps.length c2) := Kb5.cell 3
      have Kbc4 : w4.cell? ⟨w1.heap.size, 4, none⟩ = some (.int .i64 b) := Kb5.cell 4
      have Kbc5 : w4.cell? ⟨w1.heap.size, 5, none⟩ = some (.int .i64 t) := Kb5.cell 5
      go_wp2_with fail
      refine ((unhide CG) _ (P5.pr (Nat.le_refl _))).mono ?_; rintro e w5 ⟨rfl, hb⟩
      have s6 : w4.heap.size ≤ w5.heap.size := Below.size hb
      have B6 := below_next (Nat.le_refl _) B5 hb
      have Kb6 := Kb5.below hb Kb5.lt
      have P6 := P5.below hb
      clear B5 Kb5 P5 Kbc0 Kbc1 Kbc2 Kbc3 Kbc4 Kbc5 hb
      rcases N3 with N3 | ⟨N3, N4⟩
      · skip
        have CB := hide CB
        have ee : (N == l + 1) = true := by rw [beq_iff_eq]; exact N3
        obtain ⟨M, hM⟩ : ∃ M, M = Sx.needI G := ⟨_, rfl⟩
        have CB := CB.out
        rw [← hM] at CB N2
        have CB := hide CB
        clear hM N3
        have Kbc0 : w5.cell? ⟨w1.heap.size, 0, none⟩ = some (.int .i64 o) := Kb6.cell 0
        have Kbc1 : w5.cell? ⟨w1.heap.size, 1, none⟩ = some (.int .i64 l) := Kb6.cell 1
        have Kbc2 : w5.cell? ⟨w1.heap.size, 2, none⟩ = some (.int .i64 m) := Kb6.cell 2
        have Kbc3 : w5.cell? ⟨w1.heap.size, 3, none⟩ = some (.slice A2 ps.length c2) := Kb6.cell 3
        have Kbc4 : w5.cell? ⟨w1.heap.size, 4, none⟩ = some (.int .i64 b) := Kb6.cell 4
        have Kbc5 : w5.cell? ⟨w1.heap.size, 5, none⟩ = some (.int .i64 t) := Kb6.cell 5
        go_wp2_with fail
        refine ((unhide CB) _).mono ?_; rintro e w9 ⟨rfl, rfl⟩
        go_wp2_with fail
        go_ret
        exact ⟨rfl, B6⟩
      · skip
        have ee : (N == l + 1) = false := by rw [beq_eq_false_iff_ne]; exact N3
        rw [N4] at CB
        have CB := hide CB
        clear N4 N2 N3
        have Kbc0 : w5.cell? ⟨w1.heap.size, 0, none⟩ = some (.int .i64 o) := Kb6.cell 0
        have Kbc1 : w5.cell? ⟨w1.heap.size, 1, none⟩ = some (.int .i64 l) := Kb6.cell 1
        have Kbc2 : w5.cell? ⟨w1.heap.size, 2, none⟩ = some (.int .i64 m) := Kb6.cell 2
        have Kbc3 : w5.cell? ⟨w1.heap.size, 3, none⟩ = some (.slice A2 ps.length c2) := Kb6.cell 3
        have Kbc4 : w5.cell? ⟨w1.heap.size, 4, none⟩ = some (.int .i64 b) := Kb6.cell 4
        have Kbc5 : w5.cell? ⟨w1.heap.size, 5, none⟩ = some (.int .i64 t) := Kb6.cell 5
        go_wp2_with fail
        refine ((unhide CB) _).mono ?_; rintro e w9 ⟨rfl, rfl⟩
        go_wp2_with fail
        refine ((unhide CB) _).mono ?_; rintro e w9 ⟨rfl, rfl⟩
        go_wp2_with fail
        go_ret
        exact ⟨rfl, B6⟩
  · have B0 : Below w.heap.size w w := Below.refl _ _
    have hnI : (1048576 : Int) < (n : Int) := by omega
    go_enter Try.func11, Try.ntmps11
    go_wp2_with fail
    go_ret
    exact ⟨rfl, B0⟩

set_option maxRecDepth 100000 in
set_option maxHeartbeats 4000000 in
theorem law_FnGreatest (A : Option Addr) (n c : Nat) (w : World) (h : Src w w.heap.size A n) (hc : n ≤ c) (hcm : c ≤ maxLen) :
    Calls Try.prog 10 #[.slice A n c] w fun e w' => e = .returned (.bool true) ∧ Below w.heap.size w w' := by
  by_cases hn : n ≤ 1048576
  · have HD := hide (draw_Greatest A n c w h hn hc hcm)
    have B0 : Below w.heap.size w w := Below.refl _ _
    clear h
    go_enter Try.func10, Try.ntmps10
    go_wp2_with fail
    refine ((unhide HD)).mono ?_; rintro e w1 ⟨o, l, m, A2, c2, b, t, ps, rfl, hl, hcp, P0, hb⟩
    have s1 : w.heap.size ≤ w1.heap.size := Below.size hb
    have B1 := below_next (Nat.le_refl _) B0 hb
    clear B0 hb
    clear HD
    have P1 := OwnV.pairs P0
    clear P0
    have s2 : (w1.alloc (.cells #[.int .i64 o, .int .i64 l, .int .i64 m, .slice A2 ps.length c2, .int .i64 b, .int .i64 t] 31)).heap.size = w1.heap.size + 1 := World.size_alloc _ _
    have B2 := B1.alloc B1.size (.cells #[.int .i64 o, .int .i64 l, .int .i64 m, .slice A2 ps.length c2, .int .i64 b, .int .i64 t] 31)
    have P2 := P1.alloc (.cells #[.int .i64 o, .int .i64 l, .int .i64 m, .slice A2 ps.length c2, .int .i64 b, .int .i64 t] 31)
    have Kb2 := Blk.new w1 31 #[.int .i64 o, .int .i64 l, .int .i64 m, .slice A2 ps.length c2, .int .i64 b, .int .i64 t]
    clear B1 P1
    cases hk : Sx.kOK o l m ps b t
    · skip
      have CK := hide (fun (wx : World) (hp : PR wx wx.heap.size A2 ps) => by have := impl_KnownValid o l m A2 c2 b t ps wx hp (by omega); rwa [hk] at this)
      have CI := hide (fun (wx : World) (hp : PR wx wx.heap.size A2 ps) => by have := impl_Greatest o l m A2 c2 b t ps wx hp (by omega); rwa [Sx.greatS_no hk] at this)
      have CS := hide (fun (wx : World) (hp : PR wx wx.heap.size A2 ps) => by have := spec_Greatest o l m A2 c2 b t ps wx hp (by omega); rwa [Sx.greatS_no hk] at this)
      have CR := hide (fun (wx : World) (hp : PR wx wx.heap.size A2 ps) => by have := impl_Grows o l m A2 c2 b t ps wx hp (by omega); rwa [hk] at this)
      clear hk
      have Kbc0 : (w1.alloc (.cells #[.int .i64 o, .int .i64 l, .int .i64 m, .slice A2 ps.length c2, .int .i64 b, .int .i64 t] 31)).cell? ⟨w1.heap.size, 0, none⟩ = some (.int .i64 o) := Kb2.cell 0
      have Kbc1 : (w1.alloc (.cells #[.int .i64 o, .int .i64 l, .int .i64 m, .slice A2 ps.length c2, .int .i64 b, .int .i64 t] 31)).cell? ⟨w1.heap.size, 1, none⟩ = some (.int .i64 l) := Kb2.cell 1
      have Kbc2 : (w1.alloc (.cells #[.int .i64 o, .int .i64 l, .int .i64 m, .slice A2 ps.length c2, .int .i64 b, .int .i64 t] 31)).cell? ⟨w1.heap.size, 2, none⟩ = some (.int .i64 m) := Kb2.cell 2
      have Kbc3 : (w1.alloc (.cells #[.int .i64 o, .int .i64 l, .int .i64 m, .slice A2 ps.length c2, .int .i64 b, .int .i64 t] 31)).cell? ⟨w1.heap.size, 3, none⟩ = some (.slice A2 ps.length c2) := Kb2.cell 3
      have Kbc4 : (w1.alloc (.cells #[.int .i64 o, .int .i64 l, .int .i64 m, .slice A2 ps.length c2, .int .i64 b, .int .i64 t] 31)).cell? ⟨w1.heap.size, 4, none⟩ = some (.int .i64 b) := Kb2.cell 4
      have Kbc5 : (w1.alloc (.cells #[.int .i64 o, .int .i64 l, .int .i64 m, .slice A2 ps.length c2, .int .i64 b, .int .i64 t] 31)).cell? ⟨w1.heap.size, 5, none⟩ = some (.int .i64 t) := Kb2.cell 5
      go_wp2_with fail
      refine ((unhide CI) _ (P2.pr (Nat.le_refl _))).mono ?_; rintro e w2 ⟨rfl, hb⟩
      have s3 : (w1.alloc (.cells #[.int .i64 o, .int .i64 l, .int .i64 m, .slice A2 ps.length c2, .int .i64 b, .int .i64 t] 31)).heap.size ≤ w2.heap.size := Below.size hb
      have B3 := below_next (Nat.le_refl _) B2 hb
      have Kb3 := Kb2.below hb Kb2.lt
      have P3 := P2.below hb
      clear B2 Kb2 P2 Kbc0 Kbc1 Kbc2 Kbc3 Kbc4 Kbc5 hb
      have Kbc0 : w2.cell? ⟨w1.heap.size, 0, none⟩ = some (.int .i64 o) := Kb3.cell 0
      have Kbc1 : w2.cell? ⟨w1.heap.size, 1, none⟩ = some (.int .i64 l) := Kb3.cell 1
      have Kbc2 : w2.cell? ⟨w1.heap.size, 2, none⟩ = some (.int .i64 m) := Kb3.cell 2
      have Kbc3 : w2.cell? ⟨w1.heap.size, 3, none⟩ = some (.slice A2 ps.length c2) := Kb3.cell 3
      have Kbc4 : w2.cell? ⟨w1.heap.size, 4, none⟩ = some (.int .i64 b) := Kb3.cell 4
      have Kbc5 : w2.cell? ⟨w1.heap.size, 5, none⟩ = some (.int .i64 t) := Kb3.cell 5
      go_wp2_with fail
      refine ((unhide CS) _ (P3.pr (Nat.le_refl _))).mono ?_; rintro e w3 ⟨rfl, hb⟩
      have s4 : w2.heap.size ≤ w3.heap.size := Below.size hb
      have B4 := below_next (Nat.le_refl _) B3 hb
      have Kb4 := Kb3.below hb Kb3.lt
      have P4 := P3.below hb
      clear B3 Kb3 P3 Kbc0 Kbc1 Kbc2 Kbc3 Kbc4 Kbc5 hb
      have Kbc0 : w3.cell? ⟨w1.heap.size, 0, none⟩ = some (.int .i64 o) := Kb4.cell 0
      have Kbc1 : w3.cell? ⟨w1.heap.size, 1, none⟩ = some (.int .i64 l) := Kb4.cell 1
      have Kbc2 : w3.cell? ⟨w1.heap.size, 2, none⟩ = some (.int .i64 m) := Kb4.cell 2
      have Kbc3 : w3.cell? ⟨w1.heap.size, 3, none⟩ = some (.slice A2 ps.length c2) := Kb4.cell 3
      have Kbc4 : w3.cell? ⟨w1.heap.size, 4, none⟩ = some (.int .i64 b) := Kb4.cell 4
      have Kbc5 : w3.cell? ⟨w1.heap.size, 5, none⟩ = some (.int .i64 t) := Kb4.cell 5
      go_wp2_with fail
      refine ((unhide CS) _ (P4.pr (Nat.le_refl _))).mono ?_; rintro e w4 ⟨rfl, hb⟩
      have s5 : w3.heap.size ≤ w4.heap.size := Below.size hb
      have B5 := below_next (Nat.le_refl _) B4 hb
      have Kb5 := Kb4.below hb Kb4.lt
      have P5 := P4.below hb
      clear B4 Kb4 P4 Kbc0 Kbc1 Kbc2 Kbc3 Kbc4 Kbc5 hb
      have Kbc0 : w4.cell? ⟨w1.heap.size, 0, none⟩ = some (.int .i64 o) := Kb5.cell 0
      have Kbc1 : w4.cell? ⟨w1.heap.size, 1, none⟩ = some (.int .i64 l) := Kb5.cell 1
      have Kbc2 : w4.cell? ⟨w1.heap.size, 2, none⟩ = some (.int .i64 m) := Kb5.cell 2
      have Kbc3 : w4.cell? ⟨w1.heap.size, 3, none⟩ = some (.slice A2 ps.length c2) := Kb5.cell 3
      have Kbc4 : w4.cell? ⟨w1.heap.size, 4, none⟩ = some (.int .i64 b) := Kb5.cell 4
      have Kbc5 : w4.cell? ⟨w1.heap.size, 5, none⟩ = some (.int .i64 t) := Kb5.cell 5
      go_wp2_with fail
      refine ((unhide CK) _ (P5.pr (Nat.le_refl _))).mono ?_; rintro e w5 ⟨rfl, hb⟩
      have s6 : w4.heap.size ≤ w5.heap.size := Below.size hb
      have B6 := below_next (Nat.le_refl _) B5 hb
      have Kb6 := Kb5.below hb Kb5.lt
      have P6 := P5.below hb
      clear B5 Kb5 P5 Kbc0 Kbc1 Kbc2 Kbc3 Kbc4 Kbc5 hb
      have Kbc0 : w5.cell? ⟨w1.heap.size, 0, none⟩ = some (.int .i64 o) := Kb6.cell 0
      have Kbc1 : w5.cell? ⟨w1.heap.size, 1, none⟩ = some (.int .i64 l) := Kb6.cell 1
      have Kbc2 : w5.cell? ⟨w1.heap.size, 2, none⟩ = some (.int .i64 m) := Kb6.cell 2
      have Kbc3 : w5.cell? ⟨w1.heap.size, 3, none⟩ = some (.slice A2 ps.length c2) := Kb6.cell 3
      have Kbc4 : w5.cell? ⟨w1.heap.size, 4, none⟩ = some (.int .i64 b) := Kb6.cell 4
      have Kbc5 : w5.cell? ⟨w1.heap.size, 5, none⟩ = some (.int .i64 t) := Kb6.cell 5
      go_wp2_with fail
      refine ((unhide CR) _ (P6.pr (Nat.le_refl _))).mono ?_; rintro e w6 ⟨rfl, hb⟩
      have s7 : w5.heap.size ≤ w6.heap.size := Below.size hb
      have B7 := below_next (Nat.le_refl _) B6 hb
      have Kb7 := Kb6.below hb Kb6.lt
      have P7 := P6.below hb
      clear B6 Kb6 P6 Kbc0 Kbc1 Kbc2 Kbc3 Kbc4 Kbc5 hb
      go_wp2_with fail
      go_ret
      exact ⟨rfl, B7⟩
    · skip
      obtain ⟨n0, n1, n2, n3, n4, n5⟩ := Sx.kOK_nums hk
      have hok := (Sx.kOK_of hk).1
      have t1 := Sx.two_pos l
      have t2 := Sx.two_byte n1
      have t3 := Sx.two_lit (l := m) n3
      have gb := Sx.great_bd l m ps.length t
      have CI := hide (fun (wx : World) (hp : PR wx wx.heap.size A2 ps) => by have := impl_Greatest o l m A2 c2 b t ps wx hp (by omega); rwa [Sx.greatS_yes hk] at this)
      have CS := hide (fun (wx : World) (hp : PR wx wx.heap.size A2 ps) => by have := spec_Greatest o l m A2 c2 b t ps wx hp (by omega); rwa [Sx.greatS_yes hk] at this)
      have CN := hide (fun (wx : World) (hp : PR wx wx.heap.size A2 ps) => by have := impl_NextWord o l m A2 c2 b t ps wx hp (by omega); rwa [Sx.nextS_yes hk] at this)
      have CR := fun (wx : World) (hp : PR wx wx.heap.size A2 ps) => impl_Grows o l m A2 c2 b t ps wx hp (by omega)
      rw [hk, Bool.true_and] at CR
      have CW := fun (wx : World) (hp : PR wx wx.heap.size A2 ps) => impl_WordOf o l m A2 c2 b t (Sx.two l + 2 + (ps.length : Int)) ps wx hp (by omega)
      rw [Sx.next_can hk] at CW
      have CE := hide (fun wx => by have := impl_EndCode o l m wx; rwa [Sx.end_yes hok] at this)
      have CL := hide (fun wx => by have := impl_LastCode o l m wx; rwa [Sx.last_yes hok] at this)
      obtain ⟨u, hu⟩ : ∃ u, u = Sx.wordS o l m ps b t (Sx.two l + 2 + (ps.length : Int)) := ⟨_, rfl⟩
      rw [← hu] at CW
      clear hu
      have e1 : IntKind.i64.wrap (Sx.two l + 1 + 1) = Sx.two l + 1 + 1 := IntWalk.i64_in _ (by omega)
      have e2 : IntKind.i64.wrap (Sx.two l + 1 + 1 + (ps.length : Int)) = Sx.two l + 1 + 1 + (ps.length : Int) := IntWalk.i64_in _ (by omega)
      have e3 : (Sx.two l + 2 + (ps.length : Int) == Sx.two l + 1 + 1 + (ps.length : Int)) = true := by rw [beq_iff_eq]; omega
      have e4 : IntKind.i64.wrap (Sx.two l + 2 + (ps.length : Int) - 1) = Sx.two l + 2 + (ps.length : Int) - 1 := IntWalk.i64_in _ (by omega)
      have v0 : ¬ Sx.greatI l m ps.length t < 0 := by omega
      rcases hg : Sx.growsB l m ps.length t with _ | _
      · by_cases v1 : 0 ≤ t
        · skip
          have CI := CI.out
          have CS := CS.out
          rw [Sx.great_no hg] at CI CS v0
          have e5 : (Sx.two l + 1 + (ps.length : Int) == Sx.two l + 2 + (ps.length : Int)) = false := by rw [beq_eq_false_iff_ne]; omega
          have e6 : (Sx.two l + 1 + (ps.length : Int) == Sx.two l + 2 + (ps.length : Int) - 1) = true := by rw [beq_iff_eq]; omega
          have v2 : ¬ Sx.two l + 2 + (ps.length : Int) ≤ Sx.two m - 1 := fun h => by rw [Sx.growsB, decide_eq_false_iff_not] at hg; exact hg ⟨v1, h⟩
          have v3 : decide (Sx.two l + 2 + (ps.length : Int) ≤ Sx.two m - 1) = false := decide_eq_false v2
          have CI := hide CI
          have CS := hide CS
          rw [hg] at CR CW
          have CR := hide CR
          have CW := hide CW
          clear hg hk hok gb
          have Kbc0 : (w1.alloc (.cells #[.int .i64 o, .int .i64 l, .int .i64 m, .slice A2 ps.length c2, .int .i64 b, .int .i64 t] 31)).cell? ⟨w1.heap.size, 0, none⟩ = some (.int .i64 o) := Kb2.cell 0
          have Kbc1 : (w1.alloc (.cells #[.int .i64 o, .int .i64 l, .int .i64 m, .slice A2 ps.length c2, .int .i64 b, .int .i64 t] 31)).cell? ⟨w1.heap.size, 1, none⟩ = some (.int .i64 l) := Kb2.cell 1
          have Kbc2 : (w1.alloc (.cells #[.int .i64 o, .int .i64 l, .int .i64 m, .slice A2 ps.length c2, .int .i64 b, .int .i64 t] 31)).cell? ⟨w1.heap.size, 2, none⟩ = some (.int .i64 m) := Kb2.cell 2
          have Kbc3 : (w1.alloc (.cells #[.int .i64 o, .int .i64 l, .int .i64 m, .slice A2 ps.length c2, .int .i64 b, .int .i64 t] 31)).cell? ⟨w1.heap.size, 3, none⟩ = some (.slice A2 ps.length c2) := Kb2.cell 3
          have Kbc4 : (w1.alloc (.cells #[.int .i64 o, .int .i64 l, .int .i64 m, .slice A2 ps.length c2, .int .i64 b, .int .i64 t] 31)).cell? ⟨w1.heap.size, 4, none⟩ = some (.int .i64 b) := Kb2.cell 4
          have Kbc5 : (w1.alloc (.cells #[.int .i64 o, .int .i64 l, .int .i64 m, .slice A2 ps.length c2, .int .i64 b, .int .i64 t] 31)).cell? ⟨w1.heap.size, 5, none⟩ = some (.int .i64 t) := Kb2.cell 5
          go_wp2_with fail
          refine ((unhide CI) _ (P2.pr (Nat.le_refl _))).mono ?_; rintro e w2 ⟨rfl, hb⟩
          have s3 : (w1.alloc (.cells #[.int .i64 o, .int .i64 l, .int .i64 m, .slice A2 ps.length c2, .int .i64 b, .int .i64 t] 31)).heap.size ≤ w2.heap.size := Below.size hb
          have B3 := below_next (Nat.le_refl _) B2 hb
          have Kb3 := Kb2.below hb Kb2.lt
          have P3 := P2.below hb
          clear B2 Kb2 P2 Kbc0 Kbc1 Kbc2 Kbc3 Kbc4 Kbc5 hb
          have Kbc0 : w2.cell? ⟨w1.heap.size, 0, none⟩ = some (.int .i64 o) := Kb3.cell 0
          have Kbc1 : w2.cell? ⟨w1.heap.size, 1, none⟩ = some (.int .i64 l) := Kb3.cell 1
          have Kbc2 : w2.cell? ⟨w1.heap.size, 2, none⟩ = some (.int .i64 m) := Kb3.cell 2
          have Kbc3 : w2.cell? ⟨w1.heap.size, 3, none⟩ = some (.slice A2 ps.length c2) := Kb3.cell 3
          have Kbc4 : w2.cell? ⟨w1.heap.size, 4, none⟩ = some (.int .i64 b) := Kb3.cell 4
          have Kbc5 : w2.cell? ⟨w1.heap.size, 5, none⟩ = some (.int .i64 t) := Kb3.cell 5
          go_wp2_with fail
          refine ((unhide CS) _ (P3.pr (Nat.le_refl _))).mono ?_; rintro e w3 ⟨rfl, hb⟩
          have s4 : w2.heap.size ≤ w3.heap.size := Below.size hb
          have B4 := below_next (Nat.le_refl _) B3 hb
          have Kb4 := Kb3.below hb Kb3.lt
          have P4 := P3.below hb
          clear B3 Kb3 P3 Kbc0 Kbc1 Kbc2 Kbc3 Kbc4 Kbc5 hb
          have Kbc0 : w3.cell? ⟨w1.heap.size, 0, none⟩ = some (.int .i64 o) := Kb4.cell 0
          have Kbc1 : w3.cell? ⟨w1.heap.size, 1, none⟩ = some (.int .i64 l) := Kb4.cell 1
          have Kbc2 : w3.cell? ⟨w1.heap.size, 2, none⟩ = some (.int .i64 m) := Kb4.cell 2
          have Kbc3 : w3.cell? ⟨w1.heap.size, 3, none⟩ = some (.slice A2 ps.length c2) := Kb4.cell 3
          have Kbc4 : w3.cell? ⟨w1.heap.size, 4, none⟩ = some (.int .i64 b) := Kb4.cell 4
          have Kbc5 : w3.cell? ⟨w1.heap.size, 5, none⟩ = some (.int .i64 t) := Kb4.cell 5
          go_wp2_with fail
          refine ((unhide CN) _ (P4.pr (Nat.le_refl _))).mono ?_; rintro e w4 ⟨rfl, hb⟩
          have s5 : w3.heap.size ≤ w4.heap.size := Below.size hb
          have B5 := below_next (Nat.le_refl _) B4 hb
          have Kb5 := Kb4.below hb Kb4.lt
          have P5 := P4.below hb
          clear B4 Kb4 P4 Kbc0 Kbc1 Kbc2 Kbc3 Kbc4 Kbc5 hb
          have Kbc0 : w4.cell? ⟨w1.heap.size, 0, none⟩ = some (.int .i64 o) := Kb5.cell 0
          have Kbc1 : w4.cell? ⟨w1.heap.size, 1, none⟩ = some (.int .i64 l) := Kb5.cell 1
          have Kbc2 : w4.cell? ⟨w1.heap.size, 2, none⟩ = some (.int .i64 m) := Kb5.cell 2
          have Kbc3 : w4.cell? ⟨w1.heap.size, 3, none⟩ = some (.slice A2 ps.length c2) := Kb5.cell 3
          have Kbc4 : w4.cell? ⟨w1.heap.size, 4, none⟩ = some (.int .i64 b) := Kb5.cell 4
          have Kbc5 : w4.cell? ⟨w1.heap.size, 5, none⟩ = some (.int .i64 t) := Kb5.cell 5
          go_wp2_with fail
          refine ((unhide CW) _ (P5.pr (Nat.le_refl _))).mono ?_; rintro e w5 ⟨rfl, hb⟩
          have s6 : w4.heap.size ≤ w5.heap.size := Below.size hb
          have B6 := below_next (Nat.le_refl _) B5 hb
          have Kb6 := Kb5.below hb Kb5.lt
          have P6 := P5.below hb
          clear B5 Kb5 P5 Kbc0 Kbc1 Kbc2 Kbc3 Kbc4 Kbc5 hb
          have Kbc0 : w5.cell? ⟨w1.heap.size, 0, none⟩ = some (.int .i64 o) := Kb6.cell 0
          have Kbc1 : w5.cell? ⟨w1.heap.size, 1, none⟩ = some (.int .i64 l) := Kb6.cell 1
          have Kbc2 : w5.cell? ⟨w1.heap.size, 2, none⟩ = some (.int .i64 m) := Kb6.cell 2
          have Kbc3 : w5.cell? ⟨w1.heap.size, 3, none⟩ = some (.slice A2 ps.length c2) := Kb6.cell 3
          have Kbc4 : w5.cell? ⟨w1.heap.size, 4, none⟩ = some (.int .i64 b) := Kb6.cell 4
          have Kbc5 : w5.cell? ⟨w1.heap.size, 5, none⟩ = some (.int .i64 t) := Kb6.cell 5
          go_wp2_with fail
          have s0 : Below w5.heap.size w5 w5.drew ∧ w5.drew.cell? ⟨w1.heap.size, 0, none⟩ = some (.int .i64 o) ∧ w5.drew.cell? ⟨w1.heap.size, 1, none⟩ = some (.int .i64 l) ∧ w5.drew.cell? ⟨w1.heap.size, 2, none⟩ = some (.int .i64 m) ∧ w5.drew.cell? ⟨w1.heap.size, 3, none⟩ = some (.slice A2 ps.length c2) ∧ w5.drew.cell? ⟨w1.heap.size, 4, none⟩ = some (.int .i64 b) ∧ w5.drew.cell? ⟨w1.heap.size, 5, none⟩ = some (.int .i64 t) := ⟨(Below.refl _ _).drew, Kb6.cell 0, Kb6.cell 1, Kb6.cell 2, Kb6.cell 3, Kb6.cell 4, Kb6.cell 5⟩
          clear Kbc0 Kbc1 Kbc2 Kbc3 Kbc4 Kbc5
          refine wp_region_held_drew (S := (fun W => Below w5.heap.size w5 W ∧ W.cell? ⟨w1.heap.size, 0, none⟩ = some (.int .i64 o) ∧ W.cell? ⟨w1.heap.size, 1, none⟩ = some (.int .i64 l) ∧ W.cell? ⟨w1.heap.size, 2, none⟩ = some (.int .i64 m) ∧ W.cell? ⟨w1.heap.size, 3, none⟩ = some (.slice A2 ps.length c2) ∧ W.cell? ⟨w1.heap.size, 4, none⟩ = some (.int .i64 b) ∧ W.cell? ⟨w1.heap.size, 5, none⟩ = some (.int .i64 t))) (by kernel_rfl) (by first | assumption | exact s0 | exact keep6 (by assumption) (by assumption)) (fun hHeld => ?_)
          refine wpAnyH_take (i := 0) (oi := { dst := some 45, op := Op.move (Operand.tmp 5), type := 3, pos := "laws.go:395", after := #[], guard := none }) (v := ?_) rfl (by kernel_rfl) (by kernel_rfl) (by kernel_rfl) (fun _ _ _ h => h) (Or.inl ⟨by rfl, ?_⟩) (by assumption) ?_; rotate_left
          · intro W hW; (try dsimp only at hW); go_simp;  try (with_reducible rfl)
          try simp only [Act.put, List.setIfInBounds_toArray, List.set_cons_zero, List.set_cons_succ]
          refine wpAnyH_take (i := 1) (oi := { dst := some 46, op := Op.fieldAddr 31 (Operand.tmp 3) 0, type := 0, pos := "laws.go:395", after := #[], guard := none }) (v := ?_) rfl (by kernel_rfl) (by kernel_rfl) (by kernel_rfl) (fun _ _ _ h => h) (Or.inl ⟨by rfl, ?_⟩) (by assumption) ?_; rotate_left
          · intro W hW; (try dsimp only at hW); go_simp;  try (with_reducible rfl)
          try simp only [Act.put, List.setIfInBounds_toArray, List.set_cons_zero, List.set_cons_succ]
          refine wpAnyH_take (i := 2) (oi := { dst := some 47, op := Op.load 28 (Operand.tmp 46), type := 28, pos := "laws.go:395", after := #[{ on := 1, ground := Ground.data }], guard := none }) (v := ?_) rfl (by kernel_rfl) (by kernel_rfl) (by kernel_rfl) (fun _ _ _ h => h) (Or.inl ⟨by rfl, ?_⟩) (by assumption) ?_; rotate_left
          · intro W hW; (try dsimp only at hW); go_simp;  try (with_reducible rfl)
          try simp only [Act.put, List.setIfInBounds_toArray, List.set_cons_zero, List.set_cons_succ]
          refine wpAnyH_take (i := 5) (oi := { dst := some 50, op := Op.fieldAddr 31 (Operand.tmp 3) 1, type := 0, pos := "laws.go:395", after := #[], guard := none }) (v := ?_) rfl (by kernel_rfl) (by kernel_rfl) (by kernel_rfl) (fun _ _ _ h => h) (Or.inl ⟨by rfl, ?_⟩) (by assumption) ?_; rotate_left
          · intro W hW; (try dsimp only at hW); go_simp;  try (with_reducible rfl)
          try simp only [Act.put, List.setIfInBounds_toArray, List.set_cons_zero, List.set_cons_succ]
          refine wpAnyH_take (i := 6) (oi := { dst := some 51, op := Op.load 29 (Operand.tmp 50), type := 29, pos := "laws.go:395", after := #[{ on := 5, ground := Ground.data }], guard := none }) (v := ?_) rfl (by kernel_rfl) (by kernel_rfl) (by kernel_rfl) (fun _ _ _ h => h) (Or.inl ⟨by rfl, ?_⟩) (by assumption) ?_; rotate_left
          · intro W hW; (try dsimp only at hW); go_simp;  try (with_reducible rfl)
          try simp only [Act.put, List.setIfInBounds_toArray, List.set_cons_zero, List.set_cons_succ]
          refine wpAnyH_take (i := 7) (oi := { dst := some 52, op := Op.call { callee := Callee.builtin Builtin.len, args := #[Operand.tmp 51], argTypes := #[29] }, type := 3, pos := "laws.go:395", after := #[{ on := 6, ground := Ground.data }], guard := none }) (v := ?_) rfl (by kernel_rfl) (by kernel_rfl) (by kernel_rfl) (fun _ _ _ h => h) (Or.inl ⟨by rfl, ?_⟩) (by assumption) ?_; rotate_left
          · intro W hW; (try dsimp only at hW); go_simp;  try (with_reducible rfl)
          try simp only [Act.put, List.setIfInBounds_toArray, List.set_cons_zero, List.set_cons_succ]
          refine wpAnyH_ready (rs := [3]) (by kernel_rfl) (by simp) (AllReadyH.cons (i := 3) (o := { dst := some 48, op := Op.call { callee := Callee.value (Operand.func 34), args := #[Operand.tmp 47], argTypes := #[28] }, type := 3, pos := "laws.go:395", after := #[{ on := 2, ground := Ground.data }], guard := none }) rfl (fun K hK => ?_) AllReadyH.nil)
          go_simp
          refine ((unhide CE) _).mono ?_; rintro e y1 ⟨rfl, hb⟩
          try go_wp2_with fail
          refine hK.out _ _ (by (try dsimp only); first | assumption | exact s0 | exact keep6 (by assumption) (by assumption)) (fun hHeld => ?_)
          clear hK K
          try simp only [Act.put, List.setIfInBounds_toArray, List.set_cons_zero, List.set_cons_succ]
          refine wpAnyH_take (i := 4) (oi := { dst := some 49, op := Op.binOp BinOp.add 3 (Operand.tmp 48) (Operand.const (Value.int IntKind.i64 1)) 3, type := 3, pos := "laws.go:395", after := #[{ on := 3, ground := Ground.data }], guard := none }) (v := ?_) rfl (by kernel_rfl) (by kernel_rfl) (by kernel_rfl) (fun _ _ _ h => h) (Or.inl ⟨by rfl, ?_⟩) (by assumption) ?_; rotate_left
          · intro W hW; (try dsimp only at hW); go_simp;  try (with_reducible rfl)
          try simp only [Act.put, List.setIfInBounds_toArray, List.set_cons_zero, List.set_cons_succ]
          refine wpAnyH_take (i := 8) (oi := { dst := some 53, op := Op.binOp BinOp.add 3 (Operand.tmp 49) (Operand.tmp 52) 3, type := 3, pos := "laws.go:395", after := #[{ on := 4, ground := Ground.data }, { on := 7, ground := Ground.data }], guard := none }) (v := ?_) rfl (by kernel_rfl) (by kernel_rfl) (by kernel_rfl) (fun _ _ _ h => h) (Or.inl ⟨by rfl, ?_⟩) (by assumption) ?_; rotate_left
          · intro W hW; (try dsimp only at hW); go_simp;  try (with_reducible rfl)
          try simp only [Act.put, List.setIfInBounds_toArray, List.set_cons_zero, List.set_cons_succ]
          refine wpAnyH_take (i := 9) (oi := { dst := some 54, op := Op.binOp BinOp.eql 3 (Operand.tmp 45) (Operand.tmp 53) 3, type := 4, pos := "laws.go:395", after := #[{ on := 0, ground := Ground.data }, { on := 8, ground := Ground.data }], guard := none }) (v := ?_) rfl (by kernel_rfl) (by kernel_rfl) (by kernel_rfl) (fun _ _ _ h => h) (Or.inl ⟨by rfl, ?_⟩) (by assumption) ?_; rotate_left
          · intro W hW; (try dsimp only at hW); go_simp;  try (with_reducible rfl)
          try simp only [Act.put, List.setIfInBounds_toArray, List.set_cons_zero, List.set_cons_succ]
          refine wpAnyH_take (i := 10) (oi := { dst := some 55, op := Op.move (Operand.tmp 54), type := 4, pos := "laws.go:395", after := #[{ on := 9, ground := Ground.data }, { on := 3, ground := Ground.chain }], guard := none }) (v := ?_) rfl (by kernel_rfl) (by kernel_rfl) (by kernel_rfl) (fun _ _ _ h => h) (Or.inl ⟨by rfl, ?_⟩) (by assumption) ?_; rotate_left
          · intro W hW; (try dsimp only at hW); go_simp;  try (with_reducible rfl)
          try simp only [Act.put, List.setIfInBounds_toArray, List.set_cons_zero, List.set_cons_succ]
          refine wpAnyH_take (i := 11) (oi := { dst := some 56, op := Op.move (Operand.tmp 7), type := 4, pos := "laws.go:395", after := #[{ on := 10, ground := Ground.guard }], guard := some (10, true) }) (v := ?_) rfl (by kernel_rfl) (by kernel_rfl) (by kernel_rfl) (fun _ _ _ h => h) (Or.inl ⟨by rfl, ?_⟩) (by assumption) ?_; rotate_left
          · intro W hW; (try dsimp only at hW); go_simp;  try (with_reducible rfl)
          try simp only [Act.put, List.setIfInBounds_toArray, List.set_cons_zero, List.set_cons_succ]
          refine wpAnyH_take (i := 12) (oi := { dst := some 57, op := Op.load 31 (Operand.tmp 3), type := 31, pos := "laws.go:395", after := #[{ on := 10, ground := Ground.guard }], guard := some (10, true) }) (v := ?_) rfl (by kernel_rfl) (by kernel_rfl) (by kernel_rfl) (fun _ _ _ h => h) (Or.inl ⟨by rfl, ?_⟩) (by assumption) ?_; rotate_left
          · intro W hW; (try dsimp only at hW); go_simp;  try (with_reducible rfl)
          try simp only [Act.put, List.setIfInBounds_toArray, List.set_cons_zero, List.set_cons_succ]
          refine wpAnyH_ready (rs := [13]) (by kernel_rfl) (by simp) (AllReadyH.cons (i := 13) (o := { dst := some 58, op := Op.call { callee := Callee.value (Operand.func 42), args := #[Operand.tmp 57], argTypes := #[31] }, type := 4, pos := "laws.go:395", after := #[{ on := 12, ground := Ground.data }, { on := 10, ground := Ground.chain }, { on := 10, ground := Ground.guard }], guard := some (10, true) }) rfl (fun K hK => ?_) AllReadyH.nil)
          go_simp
          refine ((unhide CR) _ ((P6.below hHeld.1).pr (Nat.le_refl _))).mono ?_; rintro e y2 ⟨rfl, hb⟩
          try go_wp2_with fail
          refine hK.out _ _ (by (try dsimp only); first | assumption | exact s0 | exact keep6 (by assumption) (by assumption)) (fun hHeld => ?_)
          clear hK K
          try simp only [Act.put, List.setIfInBounds_toArray, List.set_cons_zero, List.set_cons_succ]
          refine wpAnyH_take (i := 14) (oi := { dst := some 59, op := Op.binOp BinOp.eql 4 (Operand.tmp 56) (Operand.tmp 58) 4, type := 4, pos := "laws.go:395", after := #[{ on := 11, ground := Ground.data }, { on := 13, ground := Ground.data }, { on := 10, ground := Ground.guard }], guard := some (10, true) }) (v := ?_) rfl (by kernel_rfl) (by kernel_rfl) (by kernel_rfl) (fun _ _ _ h => h) (Or.inl ⟨by rfl, ?_⟩) (by assumption) ?_; rotate_left
          · intro W hW; (try dsimp only at hW); go_simp;  try (with_reducible rfl)
          try simp only [Act.put, List.setIfInBounds_toArray, List.set_cons_zero, List.set_cons_succ]
          refine wpAnyH_take (i := 15) (oi := { dst := some 60, op := Op.pick (Operand.tmp 55) (Operand.tmp 59) (Operand.const (Value.bool false)), type := 4, pos := "laws.go:395", after := #[{ on := 10, ground := Ground.data }, { on := 14, ground := Ground.data }], guard := none }) (v := ?_) rfl (by kernel_rfl) (by kernel_rfl) (by kernel_rfl) (fun _ _ _ h => h) (Or.inl ⟨by rfl, ?_⟩) (by assumption) ?_; rotate_left
          · intro W hW; (try dsimp only at hW); go_simp;  try (with_reducible rfl)
          try simp only [Act.put, List.setIfInBounds_toArray, List.set_cons_zero, List.set_cons_succ]
          refine wpAnyH_take (i := 16) (oi := { dst := some 61, op := Op.move (Operand.tmp 60), type := 4, pos := "laws.go:395", after := #[{ on := 15, ground := Ground.data }, { on := 13, ground := Ground.chain }], guard := none }) (v := ?_) rfl (by kernel_rfl) (by kernel_rfl) (by kernel_rfl) (fun _ _ _ h => h) (Or.inl ⟨by rfl, ?_⟩) (by assumption) ?_; rotate_left
          · intro W hW; (try dsimp only at hW); go_simp;  try (with_reducible rfl)
          try simp only [Act.put, List.setIfInBounds_toArray, List.set_cons_zero, List.set_cons_succ]
          refine wpAnyH_take (i := 17) (oi := { dst := some 62, op := Op.move (Operand.tmp 4), type := 3, pos := "laws.go:395", after := #[{ on := 16, ground := Ground.guard }], guard := some (16, true) }) (v := ?_) rfl (by kernel_rfl) (by kernel_rfl) (by kernel_rfl) (fun _ _ _ h => h) (Or.inl ⟨by rfl, ?_⟩) (by assumption) ?_; rotate_left
          · intro W hW; (try dsimp only at hW); go_simp;  try (with_reducible rfl)
          try simp only [Act.put, List.setIfInBounds_toArray, List.set_cons_zero, List.set_cons_succ]
          refine wpAnyH_take (i := 18) (oi := { dst := some 63, op := Op.move (Operand.tmp 5), type := 3, pos := "laws.go:395", after := #[{ on := 16, ground := Ground.guard }], guard := some (16, true) }) (v := ?_) rfl (by kernel_rfl) (by kernel_rfl) (by kernel_rfl) (fun _ _ _ h => h) (Or.inl ⟨by rfl, ?_⟩) (by assumption) ?_; rotate_left
          · intro W hW; (try dsimp only at hW); go_simp;  try (with_reducible rfl)
          try simp only [Act.put, List.setIfInBounds_toArray, List.set_cons_zero, List.set_cons_succ]
          refine wpAnyH_take (i := 19) (oi := { dst := some 64, op := Op.binOp BinOp.eql 3 (Operand.tmp 62) (Operand.tmp 63) 3, type := 4, pos := "laws.go:395", after := #[{ on := 17, ground := Ground.data }, { on := 18, ground := Ground.data }, { on := 16, ground := Ground.guard }], guard := some (16, true) }) (v := ?_) rfl (by kernel_rfl) (by kernel_rfl) (by kernel_rfl) (fun _ _ _ h => h) (Or.inl ⟨by rfl, ?_⟩) (by assumption) ?_; rotate_left
          · intro W hW; (try dsimp only at hW); go_simp;  try (with_reducible rfl)
          try simp only [Act.put, List.setIfInBounds_toArray, List.set_cons_zero, List.set_cons_succ]
          refine wpAnyH_take (i := 20) (oi := { dst := some 65, op := Op.load 31 (Operand.tmp 3), type := 31, pos := "laws.go:395", after := #[{ on := 16, ground := Ground.guard }], guard := some (16, true) }) (v := ?_) rfl (by kernel_rfl) (by kernel_rfl) (by kernel_rfl) (fun _ _ _ h => h) (Or.inl ⟨by rfl, ?_⟩) (by assumption) ?_; rotate_left
          · intro W hW; (try dsimp only at hW); go_simp;  try (with_reducible rfl)
          try simp only [Act.put, List.setIfInBounds_toArray, List.set_cons_zero, List.set_cons_succ]
          refine wpAnyH_ready (rs := [21]) (by kernel_rfl) (by simp) (AllReadyH.cons (i := 21) (o := { dst := some 66, op := Op.call { callee := Callee.value (Operand.func 42), args := #[Operand.tmp 65], argTypes := #[31] }, type := 4, pos := "laws.go:395", after := #[{ on := 20, ground := Ground.data }, { on := 16, ground := Ground.chain }, { on := 16, ground := Ground.guard }], guard := some (16, true) }) rfl (fun K hK => ?_) AllReadyH.nil)
          go_simp
          refine ((unhide CR) _ ((P6.below hHeld.1).pr (Nat.le_refl _))).mono ?_; rintro e y3 ⟨rfl, hb⟩
          try go_wp2_with fail
          refine hK.out _ _ (by (try dsimp only); first | assumption | exact s0 | exact keep6 (by assumption) (by assumption)) (fun hHeld => ?_)
          clear hK K
          try simp only [Act.put, List.setIfInBounds_toArray, List.set_cons_zero, List.set_cons_succ]
          refine wpAnyH_take (i := 22) (oi := { dst := some 67, op := Op.binOp BinOp.eql 4 (Operand.tmp 64) (Operand.tmp 66) 4, type := 4, pos := "laws.go:395", after := #[{ on := 19, ground := Ground.data }, { on := 21, ground := Ground.data }, { on := 16, ground := Ground.guard }], guard := some (16, true) }) (v := ?_) rfl (by kernel_rfl) (by kernel_rfl) (by kernel_rfl) (fun _ _ _ h => h) (Or.inl ⟨by rfl, ?_⟩) (by assumption) ?_; rotate_left
          · intro W hW; (try dsimp only at hW); go_simp;  try (with_reducible rfl)
          try simp only [Act.put, List.setIfInBounds_toArray, List.set_cons_zero, List.set_cons_succ]
          refine wpAnyH_take (i := 23) (oi := { dst := some 68, op := Op.pick (Operand.tmp 61) (Operand.tmp 67) (Operand.const (Value.bool false)), type := 4, pos := "laws.go:395", after := #[{ on := 16, ground := Ground.data }, { on := 22, ground := Ground.data }], guard := none }) (v := ?_) rfl (by kernel_rfl) (by kernel_rfl) (by kernel_rfl) (fun _ _ _ h => h) (Or.inl ⟨by rfl, ?_⟩) (by assumption) ?_; rotate_left
          · intro W hW; (try dsimp only at hW); go_simp;  try (with_reducible rfl)
          try simp only [Act.put, List.setIfInBounds_toArray, List.set_cons_zero, List.set_cons_succ]
          refine wpAnyH_take (i := 24) (oi := { dst := some 69, op := Op.move (Operand.tmp 68), type := 4, pos := "laws.go:395", after := #[{ on := 23, ground := Ground.data }, { on := 21, ground := Ground.chain }], guard := none }) (v := ?_) rfl (by kernel_rfl) (by kernel_rfl) (by kernel_rfl) (fun _ _ _ h => h) (Or.inl ⟨by rfl, ?_⟩) (by assumption) ?_; rotate_left
          · intro W hW; (try dsimp only at hW); go_simp;  try (with_reducible rfl)
          try simp only [Act.put, List.setIfInBounds_toArray, List.set_cons_zero, List.set_cons_succ]
          refine wpAnyH_take (i := 25) (oi := { dst := some 70, op := Op.move (Operand.tmp 4), type := 3, pos := "laws.go:395", after := #[{ on := 24, ground := Ground.guard }], guard := some (24, true) }) (v := ?_) rfl (by kernel_rfl) (by kernel_rfl) (by kernel_rfl) (fun _ _ _ h => h) (Or.inl ⟨by rfl, ?_⟩) (by assumption) ?_; rotate_left
          · intro W hW; (try dsimp only at hW); go_simp;  try (with_reducible rfl)
          try simp only [Act.put, List.setIfInBounds_toArray, List.set_cons_zero, List.set_cons_succ]
          refine wpAnyH_take (i := 26) (oi := { dst := some 71, op := Op.move (Operand.tmp 5), type := 3, pos := "laws.go:395", after := #[{ on := 24, ground := Ground.guard }], guard := some (24, true) }) (v := ?_) rfl (by kernel_rfl) (by kernel_rfl) (by kernel_rfl) (fun _ _ _ h => h) (Or.inl ⟨by rfl, ?_⟩) (by assumption) ?_; rotate_left
          · intro W hW; (try dsimp only at hW); go_simp;  try (with_reducible rfl)
          try simp only [Act.put, List.setIfInBounds_toArray, List.set_cons_zero, List.set_cons_succ]
          refine wpAnyH_take (i := 27) (oi := { dst := some 72, op := Op.binOp BinOp.eql 3 (Operand.tmp 70) (Operand.tmp 71) 3, type := 4, pos := "laws.go:395", after := #[{ on := 25, ground := Ground.data }, { on := 26, ground := Ground.data }, { on := 24, ground := Ground.guard }], guard := some (24, true) }) (v := ?_) rfl (by kernel_rfl) (by kernel_rfl) (by kernel_rfl) (fun _ _ _ h => h) (Or.inl ⟨by rfl, ?_⟩) (by assumption) ?_; rotate_left
          · intro W hW; (try dsimp only at hW); go_simp;  try (with_reducible rfl)
          try simp only [Act.put, List.setIfInBounds_toArray, List.set_cons_zero, List.set_cons_succ]
          refine wpAnyH_take (i := 28) (oi := { dst := some 73, op := Op.move (Operand.tmp 72), type := 4, pos := "laws.go:395", after := #[{ on := 27, ground := Ground.data }, { on := 24, ground := Ground.chain }, { on := 24, ground := Ground.guard }], guard := some (24, true) }) (v := ?_) rfl (by kernel_rfl) (by kernel_rfl) (by kernel_rfl) (fun _ _ _ h => h) (Or.inl ⟨by rfl, ?_⟩) (by assumption) ?_; rotate_left
          · intro W hW; (try dsimp only at hW); go_simp;  try (with_reducible rfl)
          try simp only [Act.put, List.setIfInBounds_toArray, List.set_cons_zero, List.set_cons_succ]
          refine wpAnyH_take (i := 29) (oi := { dst := some 74, op := Op.move (Operand.tmp 4), type := 3, pos := "laws.go:395", after := #[{ on := 28, ground := Ground.guard }], guard := some (28, false) }) (v := ?_) rfl (by kernel_rfl) (by kernel_rfl) (by kernel_rfl) (fun _ _ _ h => h) (Or.inl ⟨by rfl, ?_⟩) (by assumption) ?_; rotate_left
          · intro W hW; (try dsimp only at hW); go_simp;  try (with_reducible rfl)
          try simp only [Act.put, List.setIfInBounds_toArray, List.set_cons_zero, List.set_cons_succ]
          refine wpAnyH_take (i := 30) (oi := { dst := some 75, op := Op.move (Operand.tmp 5), type := 3, pos := "laws.go:395", after := #[{ on := 28, ground := Ground.guard }], guard := some (28, false) }) (v := ?_) rfl (by kernel_rfl) (by kernel_rfl) (by kernel_rfl) (fun _ _ _ h => h) (Or.inl ⟨by rfl, ?_⟩) (by assumption) ?_; rotate_left
          · intro W hW; (try dsimp only at hW); go_simp;  try (with_reducible rfl)
          try simp only [Act.put, List.setIfInBounds_toArray, List.set_cons_zero, List.set_cons_succ]
          refine wpAnyH_take (i := 31) (oi := { dst := some 76, op := Op.binOp BinOp.sub 3 (Operand.tmp 75) (Operand.const (Value.int IntKind.i64 1)) 3, type := 3, pos := "laws.go:395", after := #[{ on := 30, ground := Ground.data }, { on := 28, ground := Ground.guard }], guard := some (28, false) }) (v := ?_) rfl (by kernel_rfl) (by kernel_rfl) (by kernel_rfl) (fun _ _ _ h => h) (Or.inl ⟨by rfl, ?_⟩) (by assumption) ?_; rotate_left
          · intro W hW; (try dsimp only at hW); go_simp;  try (with_reducible rfl)
          try simp only [Act.put, List.setIfInBounds_toArray, List.set_cons_zero, List.set_cons_succ]
          refine wpAnyH_take (i := 32) (oi := { dst := some 77, op := Op.binOp BinOp.eql 3 (Operand.tmp 74) (Operand.tmp 76) 3, type := 4, pos := "laws.go:395", after := #[{ on := 29, ground := Ground.data }, { on := 31, ground := Ground.data }, { on := 28, ground := Ground.guard }], guard := some (28, false) }) (v := ?_) rfl (by kernel_rfl) (by kernel_rfl) (by kernel_rfl) (fun _ _ _ h => h) (Or.inl ⟨by rfl, ?_⟩) (by assumption) ?_; rotate_left
          · intro W hW; (try dsimp only at hW); go_simp;  try (with_reducible rfl)
          try simp only [Act.put, List.setIfInBounds_toArray, List.set_cons_zero, List.set_cons_succ]
          refine wpAnyH_take (i := 33) (oi := { dst := some 78, op := Op.pick (Operand.tmp 73) (Operand.const (Value.bool true)) (Operand.tmp 77), type := 4, pos := "laws.go:395", after := #[{ on := 28, ground := Ground.data }, { on := 32, ground := Ground.data }, { on := 24, ground := Ground.guard }], guard := some (24, true) }) (v := ?_) rfl (by kernel_rfl) (by kernel_rfl) (by kernel_rfl) (fun _ _ _ h => h) (Or.inl ⟨by rfl, ?_⟩) (by assumption) ?_; rotate_left
          · intro W hW; (try dsimp only at hW); go_simp;  try (with_reducible rfl)
          try simp only [Act.put, List.setIfInBounds_toArray, List.set_cons_zero, List.set_cons_succ]
          refine wpAnyH_take (i := 34) (oi := { dst := some 79, op := Op.pick (Operand.tmp 69) (Operand.tmp 78) (Operand.const (Value.bool false)), type := 4, pos := "laws.go:395", after := #[{ on := 24, ground := Ground.data }, { on := 33, ground := Ground.data }], guard := none }) (v := ?_) rfl (by kernel_rfl) (by kernel_rfl) (by kernel_rfl) (fun _ _ _ h => h) (Or.inl ⟨by rfl, ?_⟩) (by assumption) ?_; rotate_left
          · intro W hW; (try dsimp only at hW); go_simp;  try (with_reducible rfl)
          try simp only [Act.put, List.setIfInBounds_toArray, List.set_cons_zero, List.set_cons_succ]
          refine wpAnyH_take (i := 35) (oi := { dst := some 80, op := Op.move (Operand.tmp 79), type := 4, pos := "laws.go:395", after := #[{ on := 34, ground := Ground.data }, { on := 28, ground := Ground.chain }], guard := none }) (v := ?_) rfl (by kernel_rfl) (by kernel_rfl) (by kernel_rfl) (fun _ _ _ h => h) (Or.inl ⟨by rfl, ?_⟩) (by assumption) ?_; rotate_left
          · intro W hW; (try dsimp only at hW); go_simp;  try (with_reducible rfl)
          try simp only [Act.put, List.setIfInBounds_toArray, List.set_cons_zero, List.set_cons_succ]
          refine wpAnyH_take (i := 36) (oi := { dst := some 81, op := Op.load 31 (Operand.tmp 3), type := 31, pos := "laws.go:395", after := #[{ on := 35, ground := Ground.guard }], guard := some (35, true) }) (v := ?_) rfl (by kernel_rfl) (by kernel_rfl) (by kernel_rfl) (fun _ _ _ h => h) (Or.inl ⟨by rfl, ?_⟩) (by assumption) ?_; rotate_left
          · intro W hW; (try dsimp only at hW); go_simp;  try (with_reducible rfl)
          try simp only [Act.put, List.setIfInBounds_toArray, List.set_cons_zero, List.set_cons_succ]
          refine wpAnyH_take (i := 38) (oi := { dst := some 83, op := Op.fieldAddr 31 (Operand.tmp 3) 3, type := 0, pos := "laws.go:395", after := #[{ on := 35, ground := Ground.guard }], guard := some (35, true) }) (v := ?_) rfl (by kernel_rfl) (by kernel_rfl) (by kernel_rfl) (fun _ _ _ h => h) (Or.inl ⟨by rfl, ?_⟩) (by assumption) ?_; rotate_left
          · intro W hW; (try dsimp only at hW); go_simp;  try (with_reducible rfl)
          try simp only [Act.put, List.setIfInBounds_toArray, List.set_cons_zero, List.set_cons_succ]
          refine wpAnyH_take (i := 39) (oi := { dst := some 84, op := Op.load 3 (Operand.tmp 83), type := 3, pos := "laws.go:395", after := #[{ on := 38, ground := Ground.data }, { on := 35, ground := Ground.guard }], guard := some (35, true) }) (v := ?_) rfl (by kernel_rfl) (by kernel_rfl) (by kernel_rfl) (fun _ _ _ h => h) (Or.inl ⟨by rfl, ?_⟩) (by assumption) ?_; rotate_left
          · intro W hW; (try dsimp only at hW); go_simp;  try (with_reducible rfl)
          try simp only [Act.put, List.setIfInBounds_toArray, List.set_cons_zero, List.set_cons_succ]
          refine wpAnyH_take (i := 40) (oi := { dst := some 85, op := Op.binOp BinOp.geq 3 (Operand.tmp 84) (Operand.const (Value.int IntKind.i64 0)) 3, type := 4, pos := "laws.go:395", after := #[{ on := 39, ground := Ground.data }, { on := 35, ground := Ground.guard }], guard := some (35, true) }) (v := ?_) rfl (by kernel_rfl) (by kernel_rfl) (by kernel_rfl) (fun _ _ _ h => h) (Or.inl ⟨by rfl, ?_⟩) (by assumption) ?_; rotate_left
          · intro W hW; (try dsimp only at hW); go_simp;  try (with_reducible rfl)
          try simp only [Act.put, List.setIfInBounds_toArray, List.set_cons_zero, List.set_cons_succ]
          refine wpAnyH_ready (rs := [37]) (by kernel_rfl) (by simp) (AllReadyH.cons (i := 37) (o := { dst := some 82, op := Op.call { callee := Callee.value (Operand.func 42), args := #[Operand.tmp 81], argTypes := #[31] }, type := 4, pos := "laws.go:395", after := #[{ on := 36, ground := Ground.data }, { on := 35, ground := Ground.chain }, { on := 35, ground := Ground.guard }], guard := some (35, true) }) rfl (fun K hK => ?_) AllReadyH.nil)
          go_simp
          refine ((unhide CR) _ ((P6.below hHeld.1).pr (Nat.le_refl _))).mono ?_; rintro e y4 ⟨rfl, hb⟩
          try go_wp2_with fail
          refine hK.out _ _ (by (try dsimp only); first | assumption | exact s0 | exact keep6 (by assumption) (by assumption)) (fun hHeld => ?_)
          clear hK K
          try simp only [Act.put, List.setIfInBounds_toArray, List.set_cons_zero, List.set_cons_succ]
          refine wpAnyH_take (i := 41) (oi := { dst := some 86, op := Op.move (Operand.tmp 85), type := 4, pos := "laws.go:395", after := #[{ on := 40, ground := Ground.data }, { on := 37, ground := Ground.chain }, { on := 35, ground := Ground.guard }], guard := some (35, true) }) (v := ?_) rfl (by kernel_rfl) (by kernel_rfl) (by kernel_rfl) (fun _ _ _ h => h) (Or.inl ⟨by rfl, ?_⟩) (by assumption) ?_; rotate_left
          · intro W hW; (try dsimp only at hW); go_simp;  try (with_reducible rfl)
          try simp only [Act.put, List.setIfInBounds_toArray, List.set_cons_zero, List.set_cons_succ]
          refine wpAnyH_take (i := 42) (oi := { dst := some 87, op := Op.move (Operand.tmp 5), type := 3, pos := "laws.go:395", after := #[{ on := 41, ground := Ground.guard }], guard := some (41, true) }) (v := ?_) rfl (by kernel_rfl) (by kernel_rfl) (by kernel_rfl) (fun _ _ _ h => h) (Or.inl ⟨by rfl, ?_⟩) (by assumption) ?_; rotate_left
          · intro W hW; (try dsimp only at hW); go_simp;  try (with_reducible rfl)
          try simp only [Act.put, List.setIfInBounds_toArray, List.set_cons_zero, List.set_cons_succ]
          refine wpAnyH_take (i := 43) (oi := { dst := some 88, op := Op.fieldAddr 31 (Operand.tmp 3) 0, type := 0, pos := "laws.go:395", after := #[{ on := 41, ground := Ground.guard }], guard := some (41, true) }) (v := ?_) rfl (by kernel_rfl) (by kernel_rfl) (by kernel_rfl) (fun _ _ _ h => h) (Or.inl ⟨by rfl, ?_⟩) (by assumption) ?_; rotate_left
          · intro W hW; (try dsimp only at hW); go_simp;  try (with_reducible rfl)
          try simp only [Act.put, List.setIfInBounds_toArray, List.set_cons_zero, List.set_cons_succ]
          refine wpAnyH_take (i := 44) (oi := { dst := some 89, op := Op.load 28 (Operand.tmp 88), type := 28, pos := "laws.go:395", after := #[{ on := 43, ground := Ground.data }, { on := 41, ground := Ground.guard }], guard := some (41, true) }) (v := ?_) rfl (by kernel_rfl) (by kernel_rfl) (by kernel_rfl) (fun _ _ _ h => h) (Or.inl ⟨by rfl, ?_⟩) (by assumption) ?_; rotate_left
          · intro W hW; (try dsimp only at hW); go_simp;  try (with_reducible rfl)
          try simp only [Act.put, List.setIfInBounds_toArray, List.set_cons_zero, List.set_cons_succ]
          refine wpAnyH_ready (rs := [45]) (by kernel_rfl) (by simp) (AllReadyH.cons (i := 45) (o := { dst := some 90, op := Op.call { callee := Callee.value (Operand.func 50), args := #[Operand.tmp 89], argTypes := #[28] }, type := 3, pos := "laws.go:395", after := #[{ on := 44, ground := Ground.data }, { on := 41, ground := Ground.chain }, { on := 41, ground := Ground.guard }], guard := some (41, true) }) rfl (fun K hK => ?_) AllReadyH.nil)
          go_simp
          refine ((unhide CL) _).mono ?_; rintro e y5 ⟨rfl, hb⟩
          try go_wp2_with fail
          refine hK.out _ _ (by (try dsimp only); first | assumption | exact s0 | exact keep6 (by assumption) (by assumption)) (fun hHeld => ?_)
          clear hK K
          try simp only [Act.put, List.setIfInBounds_toArray, List.set_cons_zero, List.set_cons_succ]
          refine wpAnyH_take (i := 46) (oi := { dst := some 91, op := Op.binOp BinOp.leq 3 (Operand.tmp 87) (Operand.tmp 90) 3, type := 4, pos := "laws.go:395", after := #[{ on := 42, ground := Ground.data }, { on := 45, ground := Ground.data }, { on := 41, ground := Ground.guard }], guard := some (41, true) }) (v := ?_) rfl (by kernel_rfl) (by kernel_rfl) (by kernel_rfl) (fun _ _ _ h => h) (Or.inl ⟨by rfl, ?_⟩) (by assumption) ?_; rotate_left
          · intro W hW; (try dsimp only at hW); go_simp;  try (with_reducible rfl)
          try simp only [Act.put, List.setIfInBounds_toArray, List.set_cons_zero, List.set_cons_succ]
          refine wpAnyH_take (i := 47) (oi := { dst := some 92, op := Op.pick (Operand.tmp 86) (Operand.tmp 91) (Operand.const (Value.bool false)), type := 4, pos := "laws.go:395", after := #[{ on := 41, ground := Ground.data }, { on := 46, ground := Ground.data }, { on := 35, ground := Ground.guard }], guard := some (35, true) }) (v := ?_) rfl (by kernel_rfl) (by kernel_rfl) (by kernel_rfl) (fun _ _ _ h => h) (Or.inl ⟨by rfl, ?_⟩) (by assumption) ?_; rotate_left
          · intro W hW; (try dsimp only at hW); go_simp;  try (with_reducible rfl)
          try simp only [Act.put, List.setIfInBounds_toArray, List.set_cons_zero, List.set_cons_succ]
          refine wpAnyH_take (i := 48) (oi := { dst := some 93, op := Op.binOp BinOp.eql 4 (Operand.tmp 82) (Operand.tmp 92) 4, type := 4, pos := "laws.go:395", after := #[{ on := 37, ground := Ground.data }, { on := 47, ground := Ground.data }, { on := 35, ground := Ground.guard }], guard := some (35, true) }) (v := ?_) rfl (by kernel_rfl) (by kernel_rfl) (by kernel_rfl) (fun _ _ _ h => h) (Or.inl ⟨by rfl, ?_⟩) (by assumption) ?_; rotate_left
          · intro W hW; (try dsimp only at hW); go_simp;  try (with_reducible rfl)
          try simp only [Act.put, List.setIfInBounds_toArray, List.set_cons_zero, List.set_cons_succ]
          refine wpAnyH_take (i := 49) (oi := { dst := some 94, op := Op.pick (Operand.tmp 80) (Operand.tmp 93) (Operand.const (Value.bool false)), type := 4, pos := "laws.go:395", after := #[{ on := 35, ground := Ground.data }, { on := 48, ground := Ground.data }], guard := none }) (v := ?_) rfl (by kernel_rfl) (by kernel_rfl) (by kernel_rfl) (fun _ _ _ h => h) (Or.inl ⟨by rfl, ?_⟩) (by assumption) ?_; rotate_left
          · intro W hW; (try dsimp only at hW); go_simp;  try (with_reducible rfl)
          try simp only [Act.put, List.setIfInBounds_toArray, List.set_cons_zero, List.set_cons_succ]
          refine wpAnyH_take (i := 50) (oi := { dst := some 2, op := Op.assign (Operand.tmp 94), type := 4, pos := "laws.go:395", after := #[{ on := 49, ground := Ground.data }, { on := 45, ground := Ground.chain }, { on := 0, ground := Ground.phase }, { on := 1, ground := Ground.phase }, { on := 2, ground := Ground.phase }, { on := 3, ground := Ground.phase }, { on := 4, ground := Ground.phase }, { on := 5, ground := Ground.phase }, { on := 6, ground := Ground.phase }, { on := 7, ground := Ground.phase }, { on := 8, ground := Ground.phase }, { on := 9, ground := Ground.phase }, { on := 10, ground := Ground.phase }, { on := 11, ground := Ground.phase }, { on := 12, ground := Ground.phase }, { on := 13, ground := Ground.phase }, { on := 14, ground := Ground.phase }, { on := 15, ground := Ground.phase }, { on := 16, ground := Ground.phase }, { on := 17, ground := Ground.phase }, { on := 18, ground := Ground.phase }, { on := 19, ground := Ground.phase }, { on := 20, ground := Ground.phase }, { on := 21, ground := Ground.phase }, { on := 22, ground := Ground.phase }, { on := 23, ground := Ground.phase }, { on := 24, ground := Ground.phase }, { on := 25, ground := Ground.phase }, { on := 26, ground := Ground.phase }, { on := 27, ground := Ground.phase }, { on := 28, ground := Ground.phase }, { on := 29, ground := Ground.phase }, { on := 30, ground := Ground.phase }, { on := 31, ground := Ground.phase }, { on := 32, ground := Ground.phase }, { on := 33, ground := Ground.phase }, { on := 34, ground := Ground.phase }, { on := 35, ground := Ground.phase }, { on := 36, ground := Ground.phase }, { on := 37, ground := Ground.phase }, { on := 38, ground := Ground.phase }, { on := 39, ground := Ground.phase }, { on := 40, ground := Ground.phase }, { on := 41, ground := Ground.phase }, { on := 42, ground := Ground.phase }, { on := 43, ground := Ground.phase }, { on := 44, ground := Ground.phase }, { on := 45, ground := Ground.phase }, { on := 46, ground := Ground.phase }, { on := 47, ground := Ground.phase }, { on := 48, ground := Ground.phase }, { on := 49, ground := Ground.phase }], guard := none }) (v := ?_) rfl (by kernel_rfl) (by kernel_rfl) (by kernel_rfl) (fun _ _ _ h => h) (Or.inl ⟨by rfl, ?_⟩) (by assumption) ?_; rotate_left
          · intro W hW; (try dsimp only at hW); go_simp;  try (with_reducible rfl)
          try simp only [Act.put, List.setIfInBounds_toArray, List.set_cons_zero, List.set_cons_succ]
          refine wpAnyH_done (by kernel_rfl) ?_ _
          have hE := hHeld.1
          clear hHeld s0
          have s7 : w5.heap.size ≤ y5.heap.size := Below.size hE
          have B7 := below_next (Nat.le_refl _) B6 hE
          have Kb7 := Kb6.below hE Kb6.lt
          have P7 := P6.below hE
          clear B6 Kb6 P6 hE
          go_wp2_with fail
          go_ret
          exact ⟨rfl, B7⟩
        · skip
          have CI := CI.out
          have CS := CS.out
          rw [Sx.great_no hg] at CI CS v0
          have e5 : (Sx.two l + 1 + (ps.length : Int) == Sx.two l + 2 + (ps.length : Int)) = false := by rw [beq_eq_false_iff_ne]; omega
          have e6 : (Sx.two l + 1 + (ps.length : Int) == Sx.two l + 2 + (ps.length : Int) - 1) = true := by rw [beq_iff_eq]; omega
          have v4 : decide (0 ≤ t) = false := decide_eq_false v1
          have v5 : t < 0 := by omega
          have CI := hide CI
          have CS := hide CS
          rw [hg] at CR CW
          have CR := hide CR
          have CW := hide CW
          clear hg hk hok gb
          have Kbc0 : (w1.alloc (.cells #[.int .i64 o, .int .i64 l, .int .i64 m, .slice A2 ps.length c2, .int .i64 b, .int .i64 t] 31)).cell? ⟨w1.heap.size, 0, none⟩ = some (.int .i64 o) := Kb2.cell 0
          have Kbc1 : (w1.alloc (.cells #[.int .i64 o, .int .i64 l, .int .i64 m, .slice A2 ps.length c2, .int .i64 b, .int .i64 t] 31)).cell? ⟨w1.heap.size, 1, none⟩ = some (.int .i64 l) := Kb2.cell 1
          have Kbc2 : (w1.alloc (.cells #[.int .i64 o, .int .i64 l, .int .i64 m, .slice A2 ps.length c2, .int .i64 b, .int .i64 t] 31)).cell? ⟨w1.heap.size, 2, none⟩ = some (.int .i64 m) := Kb2.cell 2
          have Kbc3 : (w1.alloc (.cells #[.int .i64 o, .int .i64 l, .int .i64 m, .slice A2 ps.length c2, .int .i64 b, .int .i64 t] 31)).cell? ⟨w1.heap.size, 3, none⟩ = some (.slice A2 ps.length c2) := Kb2.cell 3
          have Kbc4 : (w1.alloc (.cells #[.int .i64 o, .int .i64 l, .int .i64 m, .slice A2 ps.length c2, .int .i64 b, .int .i64 t] 31)).cell? ⟨w1.heap.size, 4, none⟩ = some (.int .i64 b) := Kb2.cell 4
          have Kbc5 : (w1.alloc (.cells #[.int .i64 o, .int .i64 l, .int .i64 m, .slice A2 ps.length c2, .int .i64 b, .int .i64 t] 31)).cell? ⟨w1.heap.size, 5, none⟩ = some (.int .i64 t) := Kb2.cell 5
          go_wp2_with fail
          refine ((unhide CI) _ (P2.pr (Nat.le_refl _))).mono ?_; rintro e w2 ⟨rfl, hb⟩
          have s3 : (w1.alloc (.cells #[.int .i64 o, .int .i64 l, .int .i64 m, .slice A2 ps.length c2, .int .i64 b, .int .i64 t] 31)).heap.size ≤ w2.heap.size := Below.size hb
          have B3 := below_next (Nat.le_refl _) B2 hb
          have Kb3 := Kb2.below hb Kb2.lt
          have P3 := P2.below hb
          clear B2 Kb2 P2 Kbc0 Kbc1 Kbc2 Kbc3 Kbc4 Kbc5 hb
          have Kbc0 : w2.cell? ⟨w1.heap.size, 0, none⟩ = some (.int .i64 o) := Kb3.cell 0
          have Kbc1 : w2.cell? ⟨w1.heap.size, 1, none⟩ = some (.int .i64 l) := Kb3.cell 1
          have Kbc2 : w2.cell? ⟨w1.heap.size, 2, none⟩ = some (.int .i64 m) := Kb3.cell 2
          have Kbc3 : w2.cell? ⟨w1.heap.size, 3, none⟩ = some (.slice A2 ps.length c2) := Kb3.cell 3
          have Kbc4 : w2.cell? ⟨w1.heap.size, 4, none⟩ = some (.int .i64 b) := Kb3.cell 4
          have Kbc5 : w2.cell? ⟨w1.heap.size, 5, none⟩ = some (.int .i64 t) := Kb3.cell 5
          go_wp2_with fail
          refine ((unhide CS) _ (P3.pr (Nat.le_refl _))).mono ?_; rintro e w3 ⟨rfl, hb⟩
          have s4 : w2.heap.size ≤ w3.heap.size := Below.size hb
          have B4 := below_next (Nat.le_refl _) B3 hb
          have Kb4 := Kb3.below hb Kb3.lt
          have P4 := P3.below hb
          clear B3 Kb3 P3 Kbc0 Kbc1 Kbc2 Kbc3 Kbc4 Kbc5 hb
          have Kbc0 : w3.cell? ⟨w1.heap.size, 0, none⟩ = some (.int .i64 o) := Kb4.cell 0
          have Kbc1 : w3.cell? ⟨w1.heap.size, 1, none⟩ = some (.int .i64 l) := Kb4.cell 1
          have Kbc2 : w3.cell? ⟨w1.heap.size, 2, none⟩ = some (.int .i64 m) := Kb4.cell 2
          have Kbc3 : w3.cell? ⟨w1.heap.size, 3, none⟩ = some (.slice A2 ps.length c2) := Kb4.cell 3
          have Kbc4 : w3.cell? ⟨w1.heap.size, 4, none⟩ = some (.int .i64 b) := Kb4.cell 4
          have Kbc5 : w3.cell? ⟨w1.heap.size, 5, none⟩ = some (.int .i64 t) := Kb4.cell 5
          go_wp2_with fail
          refine ((unhide CN) _ (P4.pr (Nat.le_refl _))).mono ?_; rintro e w4 ⟨rfl, hb⟩
          have s5 : w3.heap.size ≤ w4.heap.size := Below.size hb
          have B5 := below_next (Nat.le_refl _) B4 hb
          have Kb5 := Kb4.below hb Kb4.lt
          have P5 := P4.below hb
          clear B4 Kb4 P4 Kbc0 Kbc1 Kbc2 Kbc3 Kbc4 Kbc5 hb
          have Kbc0 : w4.cell? ⟨w1.heap.size, 0, none⟩ = some (.int .i64 o) := Kb5.cell 0
          have Kbc1 : w4.cell? ⟨w1.heap.size, 1, none⟩ = some (.int .i64 l) := Kb5.cell 1
          have Kbc2 : w4.cell? ⟨w1.heap.size, 2, none⟩ = some (.int .i64 m) := Kb5.cell 2
          have Kbc3 : w4.cell? ⟨w1.heap.size, 3, none⟩ = some (.slice A2 ps.length c2) := Kb5.cell 3
          have Kbc4 : w4.cell? ⟨w1.heap.size, 4, none⟩ = some (.int .i64 b) := Kb5.cell 4
          have Kbc5 : w4.cell? ⟨w1.heap.size, 5, none⟩ = some (.int .i64 t) := Kb5.cell 5
          go_wp2_with fail
          refine ((unhide CW) _ (P5.pr (Nat.le_refl _))).mono ?_; rintro e w5 ⟨rfl, hb⟩
          have s6 : w4.heap.size ≤ w5.heap.size := Below.size hb
          have B6 := below_next (Nat.le_refl _) B5 hb
          have Kb6 := Kb5.below hb Kb5.lt
          have P6 := P5.below hb
          clear B5 Kb5 P5 Kbc0 Kbc1 Kbc2 Kbc3 Kbc4 Kbc5 hb
          have Kbc0 : w5.cell? ⟨w1.heap.size, 0, none⟩ = some (.int .i64 o) := Kb6.cell 0
          have Kbc1 : w5.cell? ⟨w1.heap.size, 1, none⟩ = some (.int .i64 l) := Kb6.cell 1
          have Kbc2 : w5.cell? ⟨w1.heap.size, 2, none⟩ = some (.int .i64 m) := Kb6.cell 2
          have Kbc3 : w5.cell? ⟨w1.heap.size, 3, none⟩ = some (.slice A2 ps.length c2) := Kb6.cell 3
          have Kbc4 : w5.cell? ⟨w1.heap.size, 4, none⟩ = some (.int .i64 b) := Kb6.cell 4
          have Kbc5 : w5.cell? ⟨w1.heap.size, 5, none⟩ = some (.int .i64 t) := Kb6.cell 5
          go_wp2_with fail
          have s0 : Below w5.heap.size w5 w5.drew ∧ w5.drew.cell? ⟨w1.heap.size, 0, none⟩ = some (.int .i64 o) ∧ w5.drew.cell? ⟨w1.heap.size, 1, none⟩ = some (.int .i64 l) ∧ w5.drew.cell? ⟨w1.heap.size, 2, none⟩ = some (.int .i64 m) ∧ w5.drew.cell? ⟨w1.heap.size, 3, none⟩ = some (.slice A2 ps.length c2) ∧ w5.drew.cell? ⟨w1.heap.size, 4, none⟩ = some (.int .i64 b) ∧ w5.drew.cell? ⟨w1.heap.size, 5, none⟩ = some (.int .i64 t) := ⟨(Below.refl _ _).drew, Kb6.cell 0, Kb6.cell 1, Kb6.cell 2, Kb6.cell 3, Kb6.cell 4, Kb6.cell 5⟩
          clear Kbc0 Kbc1 Kbc2 Kbc3 Kbc4 Kbc5
          refine wp_region_held_drew (S := (fun W => Below w5.heap.size w5 W ∧ W.cell? ⟨w1.heap.size, 0, none⟩ = some (.int .i64 o) ∧ W.cell? ⟨w1.heap.size, 1, none⟩ = some (.int .i64 l) ∧ W.cell? ⟨w1.heap.size, 2, none⟩ = some (.int .i64 m) ∧ W.cell? ⟨w1.heap.size, 3, none⟩ = some (.slice A2 ps.length c2) ∧ W.cell? ⟨w1.heap.size, 4, none⟩ = some (.int .i64 b) ∧ W.cell? ⟨w1.heap.size, 5, none⟩ = some (.int .i64 t))) (by kernel_rfl) (by first | assumption | exact s0 | exact keep6 (by assumption) (by assumption)) (fun hHeld => ?_)
          refine wpAnyH_take (i := 0) (oi := { dst := some 45, op := Op.move (Operand.tmp 5), type := 3, pos := "laws.go:395", after := #[], guard := none }) (v := ?_) rfl (by kernel_rfl) (by kernel_rfl) (by kernel_rfl) (fun _ _ _ h => h) (Or.inl ⟨by rfl, ?_⟩) (by assumption) ?_; rotate_left
          · intro W hW; (try dsimp only at hW); go_simp;  try (with_reducible rfl)
          try simp only [Act.put, List.setIfInBounds_toArray, List.set_cons_zero, List.set_cons_succ]
          refine wpAnyH_take (i := 1) (oi := { dst := some 46, op := Op.fieldAddr 31 (Operand.tmp 3) 0, type := 0, pos := "laws.go:395", after := #[], guard := none }) (v := ?_) rfl (by kernel_rfl) (by kernel_rfl) (by kernel_rfl) (fun _ _ _ h => h) (Or.inl ⟨by rfl, ?_⟩) (by assumption) ?_; rotate_left
          · intro W hW; (try dsimp only at hW); go_simp;  try (with_reducible rfl)
          try simp only [Act.put, List.setIfInBounds_toArray, List.set_cons_zero, List.set_cons_succ]
          refine wpAnyH_take (i := 2) (oi := { dst := some 47, op := Op.load 28 (Operand.tmp 46), type := 28, pos := "laws.go:395", after := #[{ on := 1, ground := Ground.data }], guard := none }) (v := ?_) rfl (by kernel_rfl) (by kernel_rfl) (by kernel_rfl) (fun _ _ _ h => h) (Or.inl ⟨by rfl, ?_⟩) (by assumption) ?_; rotate_left
          · intro W hW; (try dsimp only at hW); go_simp;  try (with_reducible rfl)
          try simp only [Act.put, List.setIfInBounds_toArray, List.set_cons_zero, List.set_cons_succ]
          refine wpAnyH_take (i := 5) (oi := { dst := some 50, op := Op.fieldAddr 31 (Operand.tmp 3) 1, type := 0, pos := "laws.go:395", after := #[], guard := none }) (v := ?_) rfl (by kernel_rfl) (by kernel_rfl) (by kernel_rfl) (fun _ _ _ h => h) (Or.inl ⟨by rfl, ?_⟩) (by assumption) ?_; rotate_left
          · intro W hW; (try dsimp only at hW); go_simp;  try (with_reducible rfl)
          try simp only [Act.put, List.setIfInBounds_toArray, List.set_cons_zero, List.set_cons_succ]
          refine wpAnyH_take (i := 6) (oi := { dst := some 51, op := Op.load 29 (Operand.tmp 50), type := 29, pos := "laws.go:395", after := #[{ on := 5, ground := Ground.data }], guard := none }) (v := ?_) rfl (by kernel_rfl) (by kernel_rfl) (by kernel_rfl) (fun _ _ _ h => h) (Or.inl ⟨by rfl, ?_⟩) (by assumption) ?_; rotate_left
          · intro W hW; (try dsimp only at hW); go_simp;  try (with_reducible rfl)
          try simp only [Act.put, List.setIfInBounds_toArray, List.set_cons_zero, List.set_cons_succ]
          refine wpAnyH_take (i := 7) (oi := { dst := some 52, op := Op.call { callee := Callee.builtin Builtin.len, args := #[Operand.tmp 51], argTypes := #[29] }, type := 3, pos := "laws.go:395", after := #[{ on := 6, ground := Ground.data }], guard := none }) (v := ?_) rfl (by kernel_rfl) (by kernel_rfl) (by kernel_rfl) (fun _ _ _ h => h) (Or.inl ⟨by rfl, ?_⟩) (by assumption) ?_; rotate_left
          · intro W hW; (try dsimp only at hW); go_simp;  try (with_reducible rfl)
          try simp only [Act.put, List.setIfInBounds_toArray, List.set_cons_zero, List.set_cons_succ]
          refine wpAnyH_ready (rs := [3]) (by kernel_rfl) (by simp) (AllReadyH.cons (i := 3) (o := { dst := some 48, op := Op.call { callee := Callee.value (Operand.func 34), args := #[Operand.tmp 47], argTypes := #[28] }, type := 3, pos := "laws.go:395", after := #[{ on := 2, ground := Ground.data }], guard := none }) rfl (fun K hK => ?_) AllReadyH.nil)
          go_simp
          refine ((unhide CE) _).mono ?_; rintro e y1 ⟨rfl, hb⟩
          try go_wp2_with fail
          refine hK.out _ _ (by (try dsimp only); first | assumption | exact s0 | exact keep6 (by assumption) (by assumption)) (fun hHeld => ?_)
          clear hK K
          try simp only [Act.put, List.setIfInBounds_toArray, List.set_cons_zero, List.set_cons_succ]
          refine wpAnyH_take (i := 4) (oi := { dst := some 49, op := Op.binOp BinOp.add 3 (Operand.tmp 48) (Operand.const (Value.int IntKind.i64 1)) 3, type := 3, pos := "laws.go:395", after := #[{ on := 3, ground := Ground.data }], guard := none }) (v := ?_) rfl (by kernel_rfl) (by kernel_rfl) (by kernel_rfl) (fun _ _ _ h => h) (Or.inl ⟨by rfl, ?_⟩) (by assumption) ?_; rotate_left
          · intro W hW; (try dsimp only at hW); go_simp;  try (with_reducible rfl)
          try simp only [Act.put, List.setIfInBounds_toArray, List.set_cons_zero, List.set_cons_succ]
          refine wpAnyH_take (i := 8) (oi := { dst := some 53, op := Op.binOp BinOp.add 3 (Operand.tmp 49) (Operand.tmp 52) 3, type := 3, pos := "laws.go:395", after := #[{ on := 4, ground := Ground.data }, { on := 7, ground := Ground.data }], guard := none }) (v := ?_) rfl (by kernel_rfl) (by kernel_rfl) (by kernel_rfl) (fun _ _ _ h => h) (Or.inl ⟨by rfl, ?_⟩) (by assumption) ?_; rotate_left
          · intro W hW; (try dsimp only at hW); go_simp;  try (with_reducible rfl)
          try simp only [Act.put, List.setIfInBounds_toArray, List.set_cons_zero, List.set_cons_succ]
          refine wpAnyH_take (i := 9) (oi := { dst := some 54, op := Op.binOp BinOp.eql 3 (Operand.tmp 45) (Operand.tmp 53) 3, type := 4, pos := "laws.go:395", after := #[{ on := 0, ground := Ground.data }, { on := 8, ground := Ground.data }], guard := none }) (v := ?_) rfl (by kernel_rfl) (by kernel_rfl) (by kernel_rfl) (fun _ _ _ h => h) (Or.inl ⟨by rfl, ?_⟩) (by assumption) ?_; rotate_left
          · intro W hW; (try dsimp only at hW); go_simp;  try (with_reducible rfl)
          try simp only [Act.put, List.setIfInBounds_toArray, List.set_cons_zero, List.set_cons_succ]
          refine wpAnyH_take (i := 10) (oi := { dst := some 55, op := Op.move (Operand.tmp 54), type := 4, pos := "laws.go:395", after := #[{ on := 9, ground := Ground.data }, { on := 3, ground := Ground.chain }], guard := none }) (v := ?_) rfl (by kernel_rfl) (by kernel_rfl) (by kernel_rfl) (fun _ _ _ h => h) (Or.inl ⟨by rfl, ?_⟩) (by assumption) ?_; rotate_left
          · intro W hW; (try dsimp only at hW); go_simp;  try (with_reducible rfl)
          try simp only [Act.put, List.setIfInBounds_toArray, List.set_cons_zero, List.set_cons_succ]
          refine wpAnyH_take (i := 11) (oi := { dst := some 56, op := Op.move (Operand.tmp 7), type := 4, pos := "laws.go:395", after := #[{ on := 10, ground := Ground.guard }], guard := some (10, true) }) (v := ?_) rfl (by kernel_rfl) (by kernel_rfl) (by kernel_rfl) (fun _ _ _ h => h) (Or.inl ⟨by rfl, ?_⟩) (by assumption) ?_; rotate_left
          · intro W hW; (try dsimp only at hW); go_simp;  try (with_reducible rfl)
          try simp only [Act.put, List.setIfInBounds_toArray, List.set_cons_zero, List.set_cons_succ]
          refine wpAnyH_take (i := 12) (oi := { dst := some 57, op := Op.load 31 (Operand.tmp 3), type := 31, pos := "laws.go:395", after := #[{ on := 10, ground := Ground.guard }], guard := some (10, true) }) (v := ?_) rfl (by kernel_rfl) (by kernel_rfl) (by kernel_rfl) (fun _ _ _ h => h) (Or.inl ⟨by rfl, ?_⟩) (by assumption) ?_; rotate_left
          · intro W hW; (try dsimp only at hW); go_simp;  try (with_reducible rfl)
          try simp only [Act.put, List.setIfInBounds_toArray, List.set_cons_zero, List.set_cons_succ]
          refine wpAnyH_ready (rs := [13]) (by kernel_rfl) (by simp) (AllReadyH.cons (i := 13) (o := { dst := some 58, op := Op.call { callee := Callee.value (Operand.func 42), args := #[Operand.tmp 57], argTypes := #[31] }, type := 4, pos := "laws.go:395", after := #[{ on := 12, ground := Ground.data }, { on := 10, ground := Ground.chain }, { on := 10, ground := Ground.guard }], guard := some (10, true) }) rfl (fun K hK => ?_) AllReadyH.nil)
          go_simp
          refine ((unhide CR) _ ((P6.below hHeld.1).pr (Nat.le_refl _))).mono ?_; rintro e y2 ⟨rfl, hb⟩
          try go_wp2_with fail
          refine hK.out _ _ (by (try dsimp only); first | assumption | exact s0 | exact keep6 (by assumption) (by assumption)) (fun hHeld => ?_)
          clear hK K
          try simp only [Act.put, List.setIfInBounds_toArray, List.set_cons_zero, List.set_cons_succ]
          refine wpAnyH_take (i := 14) (oi := { dst := some 59, op := Op.binOp BinOp.eql 4 (Operand.tmp 56) (Operand.tmp 58) 4, type := 4, pos := "laws.go:395", after := #[{ on := 11, ground := Ground.data }, { on := 13, ground := Ground.data }, { on := 10, ground := Ground.guard }], guard := some (10, true) }) (v := ?_) rfl (by kernel_rfl) (by kernel_rfl) (by kernel_rfl) (fun _ _ _ h => h) (Or.inl ⟨by rfl, ?_⟩) (by assumption) ?_; rotate_left
          · intro W hW; (try dsimp only at hW); go_simp;  try (with_reducible rfl)
          try simp only [Act.put, List.setIfInBounds_toArray, List.set_cons_zero, List.set_cons_succ]
          refine wpAnyH_take (i := 15) (oi := { dst := some 60, op := Op.pick (Operand.tmp 55) (Operand.tmp 59) (Operand.const (Value.bool false)), type := 4, pos := "laws.go:395", after := #[{ on := 10, ground := Ground.data }, { on := 14, ground := Ground.data }], guard := none }) (v := ?_) rfl (by kernel_rfl) (by kernel_rfl) (by kernel_rfl) (fun _ _ _ h => h) (Or.inl ⟨by rfl, ?_⟩) (by assumption) ?_; rotate_left
          · intro W hW; (try dsimp only at hW); go_simp;  try (with_reducible rfl)
          try simp only [Act.put, List.setIfInBounds_toArray, List.set_cons_zero, List.set_cons_succ]
          refine wpAnyH_take (i := 16) (oi := { dst := some 61, op := Op.move (Operand.tmp 60), type := 4, pos := "laws.go:395", after := #[{ on := 15, ground := Ground.data }, { on := 13, ground := Ground.chain }], guard := none }) (v := ?_) rfl (by kernel_rfl) (by kernel_rfl) (by kernel_rfl) (fun _ _ _ h => h) (Or.inl ⟨by rfl, ?_⟩) (by assumption) ?_; rotate_left
          · intro W hW; (try dsimp only at hW); go_simp;  try (with_reducible rfl)
          try simp only [Act.put, List.setIfInBounds_toArray, List.set_cons_zero, List.set_cons_succ]
          refine wpAnyH_take (i := 17) (oi := { dst := some 62, op := Op.move (Operand.tmp 4), type := 3, pos := "laws.go:395", after := #[{ on := 16, ground := Ground.guard }], guard := some (16, true) }) (v := ?_) rfl (by kernel_rfl) (by kernel_rfl) (by kernel_rfl) (fun _ _ _ h => h) (Or.inl ⟨by rfl, ?_⟩) (by assumption) ?_; rotate_left
          · intro W hW; (try dsimp only at hW); go_simp;  try (with_reducible rfl)
          try simp only [Act.put, List.setIfInBounds_toArray, List.set_cons_zero, List.set_cons_succ]
          refine wpAnyH_take (i := 18) (oi := { dst := some 63, op := Op.move (Operand.tmp 5), type := 3, pos := "laws.go:395", after := #[{ on := 16, ground := Ground.guard }], guard := some (16, true) }) (v := ?_) rfl (by kernel_rfl) (by kernel_rfl) (by kernel_rfl) (fun _ _ _ h => h) (Or.inl ⟨by rfl, ?_⟩) (by assumption) ?_; rotate_left
          · intro W hW; (try dsimp only at hW); go_simp;  try (with_reducible rfl)
          try simp only [Act.put, List.setIfInBounds_toArray, List.set_cons_zero, List.set_cons_succ]
          refine wpAnyH_take (i := 19) (oi := { dst := some 64, op := Op.binOp BinOp.eql 3 (Operand.tmp 62) (Operand.tmp 63) 3, type := 4, pos := "laws.go:395", after := #[{ on := 17, ground := Ground.data }, { on := 18, ground := Ground.data }, { on := 16, ground := Ground.guard }], guard := some (16, true) }) (v := ?_) rfl (by kernel_rfl) (by kernel_rfl) (by kernel_rfl) (fun _ _ _ h => h) (Or.inl ⟨by rfl, ?_⟩) (by assumption) ?_; rotate_left
          · intro W hW; (try dsimp only at hW); go_simp;  try (with_reducible rfl)
          try simp only [Act.put, List.setIfInBounds_toArray, List.set_cons_zero, List.set_cons_succ]
          refine wpAnyH_take (i := 20) (oi := { dst := some 65, op := Op.load 31 (Operand.tmp 3), type := 31, pos := "laws.go:395", after := #[{ on := 16, ground := Ground.guard }], guard := some (16, true) }) (v := ?_) rfl (by kernel_rfl) (by kernel_rfl) (by kernel_rfl) (fun _ _ _ h => h) (Or.inl ⟨by rfl, ?_⟩) (by assumption) ?_; rotate_left
          · intro W hW; (try dsimp only at hW); go_simp;  try (with_reducible rfl)
          try simp only [Act.put, List.setIfInBounds_toArray, List.set_cons_zero, List.set_cons_succ]
          refine wpAnyH_ready (rs := [21]) (by kernel_rfl) (by simp) (AllReadyH.cons (i := 21) (o := { dst := some 66, op := Op.call { callee := Callee.value (Operand.func 42), args := #[Operand.tmp 65], argTypes := #[31] }, type := 4, pos := "laws.go:395", after := #[{ on := 20, ground := Ground.data }, { on := 16, ground := Ground.chain }, { on := 16, ground := Ground.guard }], guard := some (16, true) }) rfl (fun K hK => ?_) AllReadyH.nil)
          go_simp
          refine ((unhide CR) _ ((P6.below hHeld.1).pr (Nat.le_refl _))).mono ?_; rintro e y3 ⟨rfl, hb⟩
          try go_wp2_with fail
          refine hK.out _ _ (by (try dsimp only); first | assumption | exact s0 | exact keep6 (by assumption) (by assumption)) (fun hHeld => ?_)
          clear hK K
          try simp only [Act.put, List.setIfInBounds_toArray, List.set_cons_zero, List.set_cons_succ]
          refine wpAnyH_take (i := 22) (oi := { dst := some 67, op := Op.binOp BinOp.eql 4 (Operand.tmp 64) (Operand.tmp 66) 4, type := 4, pos := "laws.go:395", after := #[{ on := 19, ground := Ground.data }, { on := 21, ground := Ground.data }, { on := 16, ground := Ground.guard }], guard := some (16, true) }) (v := ?_) rfl (by kernel_rfl) (by kernel_rfl) (by kernel_rfl) (fun _ _ _ h => h) (Or.inl ⟨by rfl, ?_⟩) (by assumption) ?_; rotate_left
          · intro W hW; (try dsimp only at hW); go_simp;  try (with_reducible rfl)
          try simp only [Act.put, List.setIfInBounds_toArray, List.set_cons_zero, List.set_cons_succ]
          refine wpAnyH_take (i := 23) (oi := { dst := some 68, op := Op.pick (Operand.tmp 61) (Operand.tmp 67) (Operand.const (Value.bool false)), type := 4, pos := "laws.go:395", after := #[{ on := 16, ground := Ground.data }, { on := 22, ground := Ground.data }], guard := none }) (v := ?_) rfl (by kernel_rfl) (by kernel_rfl) (by kernel_rfl) (fun _ _ _ h => h) (Or.inl ⟨by rfl, ?_⟩) (by assumption) ?_; rotate_left
          · intro W hW; (try dsimp only at hW); go_simp;  try (with_reducible rfl)
          try simp only [Act.put, List.setIfInBounds_toArray, List.set_cons_zero, List.set_cons_succ]
          refine wpAnyH_take (i := 24) (oi := { dst := some 69, op := Op.move (Operand.tmp 68), type := 4, pos := "laws.go:395", after := #[{ on := 23, ground := Ground.data }, { on := 21, ground := Ground.chain }], guard := none }) (v := ?_) rfl (by kernel_rfl) (by kernel_rfl) (by kernel_rfl) (fun _ _ _ h => h) (Or.inl ⟨by rfl, ?_⟩) (by assumption) ?_; rotate_left
          · intro W hW; (try dsimp only at hW); go_simp;  try (with_reducible rfl)
          try simp only [Act.put, List.setIfInBounds_toArray, List.set_cons_zero, List.set_cons_succ]
          refine wpAnyH_take (i := 25) (oi := { dst := some 70, op := Op.move (Operand.tmp 4), type := 3, pos := "laws.go:395", after := #[{ on := 24, ground := Ground.guard }], guard := some (24, true) }) (v := ?_) rfl (by kernel_rfl) (by kernel_rfl) (by kernel_rfl) (fun _ _ _ h => h) (Or.inl ⟨by rfl, ?_⟩) (by assumption) ?_; rotate_left
          · intro W hW; (try dsimp only at hW); go_simp;  try (with_reducible rfl)
          try simp only [Act.put, List.setIfInBounds_toArray, List.set_cons_zero, List.set_cons_succ]
          refine wpAnyH_take (i := 26) (oi := { dst := some 71, op := Op.move (Operand.tmp 5), type := 3, pos := "laws.go:395", after := #[{ on := 24, ground := Ground.guard }], guard := some (24, true) }) (v := ?_) rfl (by kernel_rfl) (by kernel_rfl) (by kernel_rfl) (fun _ _ _ h => h) (Or.inl ⟨by rfl, ?_⟩) (by assumption) ?_; rotate_left
          · intro W hW; (try dsimp only at hW); go_simp;  try (with_reducible rfl)
          try simp only [Act.put, List.setIfInBounds_toArray, List.set_cons_zero, List.set_cons_succ]
          refine wpAnyH_take (i := 27) (oi := { dst := some 72, op := Op.binOp BinOp.eql 3 (Operand.tmp 70) (Operand.tmp 71) 3, type := 4, pos := "laws.go:395", after := #[{ on := 25, ground := Ground.data }, { on := 26, ground := Ground.data }, { on := 24, ground := Ground.guard }], guard := some (24, true) }) (v := ?_) rfl (by kernel_rfl) (by kernel_rfl) (by kernel_rfl) (fun _ _ _ h => h) (Or.inl ⟨by rfl, ?_⟩) (by assumption) ?_; rotate_left
          · intro W hW; (try dsimp only at hW); go_simp;  try (with_reducible rfl)
          try simp only [Act.put, List.setIfInBounds_toArray, List.set_cons_zero, List.set_cons_succ]
          refine wpAnyH_take (i := 28) (oi := { dst := some 73, op := Op.move (Operand.tmp 72), type := 4, pos := "laws.go:395", after := #[{ on := 27, ground := Ground.data }, { on := 24, ground := Ground.chain }, { on := 24, ground := Ground.guard }], guard := some (24, true) }) (v := ?_) rfl (by kernel_rfl) (by kernel_rfl) (by kernel_rfl) (fun _ _ _ h => h) (Or.inl ⟨by rfl, ?_⟩) (by assumption) ?_; rotate_left
          · intro W hW; (try dsimp only at hW); go_simp;  try (with_reducible rfl)
          try simp only [Act.put, List.setIfInBounds_toArray, List.set_cons_zero, List.set_cons_succ]
          refine wpAnyH_take (i := 29) (oi := { dst := some 74, op := Op.move (Operand.tmp 4), type := 3, pos := "laws.go:395", after := #[{ on := 28, ground := Ground.guard }], guard := some (28, false) }) (v := ?_) rfl (by kernel_rfl) (by kernel_rfl) (by kernel_rfl) (fun _ _ _ h => h) (Or.inl ⟨by rfl, ?_⟩) (by assumption) ?_; rotate_left
          · intro W hW; (try dsimp only at hW); go_simp;  try (with_reducible rfl)
          try simp only [Act.put, List.setIfInBounds_toArray, List.set_cons_zero, List.set_cons_succ]
          refine wpAnyH_take (i := 30) (oi := { dst := some 75, op := Op.move (Operand.tmp 5), type := 3, pos := "laws.go:395", after := #[{ on := 28, ground := Ground.guard }], guard := some (28, false) }) (v := ?_) rfl (by kernel_rfl) (by kernel_rfl) (by kernel_rfl) (fun _ _ _ h => h) (Or.inl ⟨by rfl, ?_⟩) (by assumption) ?_; rotate_left
          · intro W hW; (try dsimp only at hW); go_simp;  try (with_reducible rfl)
          try simp only [Act.put, List.setIfInBounds_toArray, List.set_cons_zero, List.set_cons_succ]
          refine wpAnyH_take (i := 31) (oi := { dst := some 76, op := Op.binOp BinOp.sub 3 (Operand.tmp 75) (Operand.const (Value.int IntKind.i64 1)) 3, type := 3, pos := "laws.go:395", after := #[{ on := 30, ground := Ground.data }, { on := 28, ground := Ground.guard }], guard := some (28, false) }) (v := ?_) rfl (by kernel_rfl) (by kernel_rfl) (by kernel_rfl) (fun _ _ _ h => h) (Or.inl ⟨by rfl, ?_⟩) (by assumption) ?_; rotate_left
          · intro W hW; (try dsimp only at hW); go_simp;  try (with_reducible rfl)
          try simp only [Act.put, List.setIfInBounds_toArray, List.set_cons_zero, List.set_cons_succ]
          refine wpAnyH_take (i := 32) (oi := { dst := some 77, op := Op.binOp BinOp.eql 3 (Operand.tmp 74) (Operand.tmp 76) 3, type := 4, pos := "laws.go:395", after := #[{ on := 29, ground := Ground.data }, { on := 31, ground := Ground.data }, { on := 28, ground := Ground.guard }], guard := some (28, false) }) (v := ?_) rfl (by kernel_rfl) (by kernel_rfl) (by kernel_rfl) (fun _ _ _ h => h) (Or.inl ⟨by rfl, ?_⟩) (by assumption) ?_; rotate_left
          · intro W hW; (try dsimp only at hW); go_simp;  try (with_reducible rfl)
          try simp only [Act.put, List.setIfInBounds_toArray, List.set_cons_zero, List.set_cons_succ]
          refine wpAnyH_take (i := 33) (oi := { dst := some 78, op := Op.pick (Operand.tmp 73) (Operand.const (Value.bool true)) (Operand.tmp 77), type := 4, pos := "laws.go:395", after := #[{ on := 28, ground := Ground.data }, { on := 32, ground := Ground.data }, { on := 24, ground := Ground.guard }], guard := some (24, true) }) (v := ?_) rfl (by kernel_rfl) (by kernel_rfl) (by kernel_rfl) (fun _ _ _ h => h) (Or.inl ⟨by rfl, ?_⟩) (by assumption) ?_; rotate_left
          · intro W hW; (try dsimp only at hW); go_simp;  try (with_reducible rfl)
          try simp only [Act.put, List.setIfInBounds_toArray, List.set_cons_zero, List.set_cons_succ]
          refine wpAnyH_take (i := 34) (oi := { dst := some 79, op := Op.pick (Operand.tmp 69) (Operand.tmp 78) (Operand.const (Value.bool false)), type := 4, pos := "laws.go:395", after := #[{ on := 24, ground := Ground.data }, { on := 33, ground := Ground.data }], guard := none }) (v := ?_) rfl (by kernel_rfl) (by kernel_rfl) (by kernel_rfl) (fun _ _ _ h => h) (Or.inl ⟨by rfl, ?_⟩) (by assumption) ?_; rotate_left
          · intro W hW; (try dsimp only at hW); go_simp;  try (with_reducible rfl)
          try simp only [Act.put, List.setIfInBounds_toArray, List.set_cons_zero, List.set_cons_succ]
          refine wpAnyH_take (i := 35) (oi := { dst := some 80, op := Op.move (Operand.tmp 79), type := 4, pos := "laws.go:395", after := #[{ on := 34, ground := Ground.data }, { on := 28, ground := Ground.chain }], guard := none }) (v := ?_) rfl (by kernel_rfl) (by kernel_rfl) (by kernel_rfl) (fun _ _ _ h => h) (Or.inl ⟨by rfl, ?_⟩) (by assumption) ?_; rotate_left
          · intro W hW; (try dsimp only at hW); go_simp;  try (with_reducible rfl)
          try simp only [Act.put, List.setIfInBounds_toArray, List.set_cons_zero, List.set_cons_succ]
          refine wpAnyH_take (i := 36) (oi := { dst := some 81, op := Op.load 31 (Operand.tmp 3), type := 31, pos := "laws.go:395", after := #[{ on := 35, ground := Ground.guard }], guard := some (35, true) }) (v := ?_) rfl (by kernel_rfl) (by kernel_rfl) (by kernel_rfl) (fun _ _ _ h => h) (Or.inl ⟨by rfl, ?_⟩) (by assumption) ?_; rotate_left
          · intro W hW; (try dsimp only at hW); go_simp;  try (with_reducible rfl)
          try simp only [Act.put, List.setIfInBounds_toArray, List.set_cons_zero, List.set_cons_succ]
          refine wpAnyH_take (i := 38) (oi := { dst := some 83, op := Op.fieldAddr 31 (Operand.tmp 3) 3, type := 0, pos := "laws.go:395", after := #[{ on := 35, ground := Ground.guard }], guard := some (35, true) }) (v := ?_) rfl (by kernel_rfl) (by kernel_rfl) (by kernel_rfl) (fun _ _ _ h => h) (Or.inl ⟨by rfl, ?_⟩) (by assumption) ?_; rotate_left
          · intro W hW; (try dsimp only at hW); go_simp;  try (with_reducible rfl)
          try simp only [Act.put, List.setIfInBounds_toArray, List.set_cons_zero, List.set_cons_succ]
          refine wpAnyH_take (i := 39) (oi := { dst := some 84, op := Op.load 3 (Operand.tmp 83), type := 3, pos := "laws.go:395", after := #[{ on := 38, ground := Ground.data }, { on := 35, ground := Ground.guard }], guard := some (35, true) }) (v := ?_) rfl (by kernel_rfl) (by kernel_rfl) (by kernel_rfl) (fun _ _ _ h => h) (Or.inl ⟨by rfl, ?_⟩) (by assumption) ?_; rotate_left
          · intro W hW; (try dsimp only at hW); go_simp;  try (with_reducible rfl)
          try simp only [Act.put, List.setIfInBounds_toArray, List.set_cons_zero, List.set_cons_succ]
          refine wpAnyH_take (i := 40) (oi := { dst := some 85, op := Op.binOp BinOp.geq 3 (Operand.tmp 84) (Operand.const (Value.int IntKind.i64 0)) 3, type := 4, pos := "laws.go:395", after := #[{ on := 39, ground := Ground.data }, { on := 35, ground := Ground.guard }], guard := some (35, true) }) (v := ?_) rfl (by kernel_rfl) (by kernel_rfl) (by kernel_rfl) (fun _ _ _ h => h) (Or.inl ⟨by rfl, ?_⟩) (by assumption) ?_; rotate_left
          · intro W hW; (try dsimp only at hW); go_simp;  try (with_reducible rfl)
          try simp only [Act.put, List.setIfInBounds_toArray, List.set_cons_zero, List.set_cons_succ]
          refine wpAnyH_ready (rs := [37]) (by kernel_rfl) (by simp) (AllReadyH.cons (i := 37) (o := { dst := some 82, op := Op.call { callee := Callee.value (Operand.func 42), args := #[Operand.tmp 81], argTypes := #[31] }, type := 4, pos := "laws.go:395", after := #[{ on := 36, ground := Ground.data }, { on := 35, ground := Ground.chain }, { on := 35, ground := Ground.guard }], guard := some (35, true) }) rfl (fun K hK => ?_) AllReadyH.nil)
          go_simp
          refine ((unhide CR) _ ((P6.below hHeld.1).pr (Nat.le_refl _))).mono ?_; rintro e y4 ⟨rfl, hb⟩
          try go_wp2_with fail
          refine hK.out _ _ (by (try dsimp only); first | assumption | exact s0 | exact keep6 (by assumption) (by assumption)) (fun hHeld => ?_)
          clear hK K
          try simp only [Act.put, List.setIfInBounds_toArray, List.set_cons_zero, List.set_cons_succ]
          refine wpAnyH_take (i := 41) (oi := { dst := some 86, op := Op.move (Operand.tmp 85), type := 4, pos := "laws.go:395", after := #[{ on := 40, ground := Ground.data }, { on := 37, ground := Ground.chain }, { on := 35, ground := Ground.guard }], guard := some (35, true) }) (v := ?_) rfl (by kernel_rfl) (by kernel_rfl) (by kernel_rfl) (fun _ _ _ h => h) (Or.inl ⟨by rfl, ?_⟩) (by assumption) ?_; rotate_left
          · intro W hW; (try dsimp only at hW); go_simp;  try (with_reducible rfl)
          try simp only [Act.put, List.setIfInBounds_toArray, List.set_cons_zero, List.set_cons_succ]
          refine wpAnyH_take (i := 42) (oi := { dst := some 87, op := Op.move (Operand.tmp 5), type := 3, pos := "laws.go:395", after := #[{ on := 41, ground := Ground.guard }], guard := some (41, true) }) rfl (by kernel_rfl) (by kernel_rfl) (by kernel_rfl) (fun _ _ _ h => h) (Or.inr ⟨by rfl, rfl⟩) (by assumption) ?_
          try simp only [Act.put, List.setIfInBounds_toArray, List.set_cons_zero, List.set_cons_succ]
          refine wpAnyH_take (i := 43) (oi := { dst := some 88, op := Op.fieldAddr 31 (Operand.tmp 3) 0, type := 0, pos := "laws.go:395", after := #[{ on := 41, ground := Ground.guard }], guard := some (41, true) }) rfl (by kernel_rfl) (by kernel_rfl) (by kernel_rfl) (fun _ _ _ h => h) (Or.inr ⟨by rfl, rfl⟩) (by assumption) ?_
          try simp only [Act.put, List.setIfInBounds_toArray, List.set_cons_zero, List.set_cons_succ]
          refine wpAnyH_take (i := 44) (oi := { dst := some 89, op := Op.load 28 (Operand.tmp 88), type := 28, pos := "laws.go:395", after := #[{ on := 43, ground := Ground.data }, { on := 41, ground := Ground.guard }], guard := some (41, true) }) rfl (by kernel_rfl) (by kernel_rfl) (by kernel_rfl) (fun _ _ _ h => h) (Or.inr ⟨by rfl, rfl⟩) (by assumption) ?_
          try simp only [Act.put, List.setIfInBounds_toArray, List.set_cons_zero, List.set_cons_succ]
          refine wpAnyH_take (i := 45) (oi := { dst := some 90, op := Op.call { callee := Callee.value (Operand.func 50), args := #[Operand.tmp 89], argTypes := #[28] }, type := 3, pos := "laws.go:395", after := #[{ on := 44, ground := Ground.data }, { on := 41, ground := Ground.chain }, { on := 41, ground := Ground.guard }], guard := some (41, true) }) rfl (by kernel_rfl) (by kernel_rfl) (by kernel_rfl) (fun _ _ _ h => h) (Or.inr ⟨by rfl, rfl⟩) (by assumption) ?_
          try simp only [Act.put, List.setIfInBounds_toArray, List.set_cons_zero, List.set_cons_succ]
          refine wpAnyH_take (i := 46) (oi := { dst := some 91, op := Op.binOp BinOp.leq 3 (Operand.tmp 87) (Operand.tmp 90) 3, type := 4, pos := "laws.go:395", after := #[{ on := 42, ground := Ground.data }, { on := 45, ground := Ground.data }, { on := 41, ground := Ground.guard }], guard := some (41, true) }) rfl (by kernel_rfl) (by kernel_rfl) (by kernel_rfl) (fun _ _ _ h => h) (Or.inr ⟨by rfl, rfl⟩) (by assumption) ?_
          try simp only [Act.put, List.setIfInBounds_toArray, List.set_cons_zero, List.set_cons_succ]
          refine wpAnyH_take (i := 47) (oi := { dst := some 92, op := Op.pick (Operand.tmp 86) (Operand.tmp 91) (Operand.const (Value.bool false)), type := 4, pos := "laws.go:395", after := #[{ on := 41, ground := Ground.data }, { on := 46, ground := Ground.data }, { on := 35, ground := Ground.guard }], guard := some (35, true) }) (v := ?_) rfl (by kernel_rfl) (by kernel_rfl) (by kernel_rfl) (fun _ _ _ h => h) (Or.inl ⟨by rfl, ?_⟩) (by assumption) ?_; rotate_left
          · intro W hW; (try dsimp only at hW); go_simp;  try (with_reducible rfl)
          try simp only [Act.put, List.setIfInBounds_toArray, List.set_cons_zero, List.set_cons_succ]
          refine wpAnyH_take (i := 48) (oi := { dst := some 93, op := Op.binOp BinOp.eql 4 (Operand.tmp 82) (Operand.tmp 92) 4, type := 4, pos := "laws.go:395", after := #[{ on := 37, ground := Ground.data }, { on := 47, ground := Ground.data }, { on := 35, ground := Ground.guard }], guard := some (35, true) }) (v := ?_) rfl (by kernel_rfl) (by kernel_rfl) (by kernel_rfl) (fun _ _ _ h => h) (Or.inl ⟨by rfl, ?_⟩) (by assumption) ?_; rotate_left
          · intro W hW; (try dsimp only at hW); go_simp;  try (with_reducible rfl)
          try simp only [Act.put, List.setIfInBounds_toArray, List.set_cons_zero, List.set_cons_succ]
          refine wpAnyH_take (i := 49) (oi := { dst := some 94, op := Op.pick (Operand.tmp 80) (Operand.tmp 93) (Operand.const (Value.bool false)), type := 4, pos := "laws.go:395", after := #[{ on := 35, ground := Ground.data }, { on := 48, ground := Ground.data }], guard := none }) (v := ?_) rfl (by kernel_rfl) (by kernel_rfl) (by kernel_rfl) (fun _ _ _ h => h) (Or.inl ⟨by rfl, ?_⟩) (by assumption) ?_; rotate_left
          · intro W hW; (try dsimp only at hW); go_simp;  try (with_reducible rfl)
          try simp only [Act.put, List.setIfInBounds_toArray, List.set_cons_zero, List.set_cons_succ]
          refine wpAnyH_take (i := 50) (oi := { dst := some 2, op := Op.assign (Operand.tmp 94), type := 4, pos := "laws.go:395", after := #[{ on := 49, ground := Ground.data }, { on := 45, ground := Ground.chain }, { on := 0, ground := Ground.phase }, { on := 1, ground := Ground.phase }, { on := 2, ground := Ground.phase }, { on := 3, ground := Ground.phase }, { on := 4, ground := Ground.phase }, { on := 5, ground := Ground.phase }, { on := 6, ground := Ground.phase }, { on := 7, ground := Ground.phase }, { on := 8, ground := Ground.phase }, { on := 9, ground := Ground.phase }, { on := 10, ground := Ground.phase }, { on := 11, ground := Ground.phase }, { on := 12, ground := Ground.phase }, { on := 13, ground := Ground.phase }, { on := 14, ground := Ground.phase }, { on := 15, ground := Ground.phase }, { on := 16, ground := Ground.phase }, { on := 17, ground := Ground.phase }, { on := 18, ground := Ground.phase }, { on := 19, ground := Ground.phase }, { on := 20, ground := Ground.phase }, { on := 21, ground := Ground.phase }, { on := 22, ground := Ground.phase }, { on := 23, ground := Ground.phase }, { on := 24, ground := Ground.phase }, { on := 25, ground := Ground.phase }, { on := 26, ground := Ground.phase }, { on := 27, ground := Ground.phase }, { on := 28, ground := Ground.phase }, { on := 29, ground := Ground.phase }, { on := 30, ground := Ground.phase }, { on := 31, ground := Ground.phase }, { on := 32, ground := Ground.phase }, { on := 33, ground := Ground.phase }, { on := 34, ground := Ground.phase }, { on := 35, ground := Ground.phase }, { on := 36, ground := Ground.phase }, { on := 37, ground := Ground.phase }, { on := 38, ground := Ground.phase }, { on := 39, ground := Ground.phase }, { on := 40, ground := Ground.phase }, { on := 41, ground := Ground.phase }, { on := 42, ground := Ground.phase }, { on := 43, ground := Ground.phase }, { on := 44, ground := Ground.phase }, { on := 45, ground := Ground.phase }, { on := 46, ground := Ground.phase }, { on := 47, ground := Ground.phase }, { on := 48, ground := Ground.phase }, { on := 49, ground := Ground.phase }], guard := none }) (v := ?_) rfl (by kernel_rfl) (by kernel_rfl) (by kernel_rfl) (fun _ _ _ h => h) (Or.inl ⟨by rfl, ?_⟩) (by assumption) ?_; rotate_left
          · intro W hW; (try dsimp only at hW); go_simp;  try (with_reducible rfl)
          try simp only [Act.put, List.setIfInBounds_toArray, List.set_cons_zero, List.set_cons_succ]
          refine wpAnyH_done (by kernel_rfl) ?_ _
          have hE := hHeld.1
          clear hHeld s0
          have s7 : w5.heap.size ≤ y4.heap.size := Below.size hE
          have B7 := below_next (Nat.le_refl _) B6 hE
          have Kb7 := Kb6.below hE Kb6.lt
          have P7 := P6.below hE
          clear B6 Kb6 P6 hE
          go_wp2_with fail
          go_ret
          exact ⟨rfl, B7⟩
      · skip
        obtain ⟨u0, u1⟩ := Sx.grows_of hg
        have CI := CI.out
        have CS := CS.out
        rw [Sx.great_yes hg] at CI CS v0
        have v1 : (0 : Int) ≤ t := u0
        have v2 : Sx.two l + 2 + (ps.length : Int) ≤ Sx.two m - 1 := u1
        clear u0 u1
        have CI := hide CI
        have CS := hide CS
        rw [hg] at CR CW
        have CR := hide CR
        have CW := hide CW
        clear hg hk hok gb
        have Kbc0 : (w1.alloc (.cells #[.int .i64 o, .int .i64 l, .int .i64 m, .slice A2 ps.length c2, .int .i64 b, .int .i64 t] 31)).cell? ⟨w1.heap.size, 0, none⟩ = some (.int .i64 o) := Kb2.cell 0
        have Kbc1 : (w1.alloc (.cells #[.int .i64 o, .int .i64 l, .int .i64 m, .slice A2 ps.length c2, .int .i64 b, .int .i64 t] 31)).cell? ⟨w1.heap.size, 1, none⟩ = some (.int .i64 l) := Kb2.cell 1
        have Kbc2 : (w1.alloc (.cells #[.int .i64 o, .int .i64 l, .int .i64 m, .slice A2 ps.length c2, .int .i64 b, .int .i64 t] 31)).cell? ⟨w1.heap.size, 2, none⟩ = some (.int .i64 m) := Kb2.cell 2
        have Kbc3 : (w1.alloc (.cells #[.int .i64 o, .int .i64 l, .int .i64 m, .slice A2 ps.length c2, .int .i64 b, .int .i64 t] 31)).cell? ⟨w1.heap.size, 3, none⟩ = some (.slice A2 ps.length c2) := Kb2.cell 3
        have Kbc4 : (w1.alloc (.cells #[.int .i64 o, .int .i64 l, .int .i64 m, .slice A2 ps.length c2, .int .i64 b, .int .i64 t] 31)).cell? ⟨w1.heap.size, 4, none⟩ = some (.int .i64 b) := Kb2.cell 4
        have Kbc5 : (w1.alloc (.cells #[.int .i64 o, .int .i64 l, .int .i64 m, .slice A2 ps.length c2, .int .i64 b, .int .i64 t] 31)).cell? ⟨w1.heap.size, 5, none⟩ = some (.int .i64 t) := Kb2.cell 5
        go_wp2_with fail
        refine ((unhide CI) _ (P2.pr (Nat.le_refl _))).mono ?_; rintro e w2 ⟨rfl, hb⟩
        have s3 : (w1.alloc (.cells #[.int .i64 o, .int .i64 l, .int .i64 m, .slice A2 ps.length c2, .int .i64 b, .int .i64 t] 31)).heap.size ≤ w2.heap.size := Below.size hb
        have B3 := below_next (Nat.le_refl _) B2 hb
        have Kb3 := Kb2.below hb Kb2.lt
        have P3 := P2.below hb
        clear B2 Kb2 P2 Kbc0 Kbc1 Kbc2 Kbc3 Kbc4 Kbc5 hb
        have Kbc0 : w2.cell? ⟨w1.heap.size, 0, none⟩ = some (.int .i64 o) := Kb3.cell 0
        have Kbc1 : w2.cell? ⟨w1.heap.size, 1, none⟩ = some (.int .i64 l) := Kb3.cell 1
        have Kbc2 : w2.cell? ⟨w1.heap.size, 2, none⟩ = some (.int .i64 m) := Kb3.cell 2
        have Kbc3 : w2.cell? ⟨w1.heap.size, 3, none⟩ = some (.slice A2 ps.length c2) := Kb3.cell 3
        have Kbc4 : w2.cell? ⟨w1.heap.size, 4, none⟩ = some (.int .i64 b) := Kb3.cell 4
        have Kbc5 : w2.cell? ⟨w1.heap.size, 5, none⟩ = some (.int .i64 t) := Kb3.cell 5
        go_wp2_with fail
        refine ((unhide CS) _ (P3.pr (Nat.le_refl _))).mono ?_; rintro e w3 ⟨rfl, hb⟩
        have s4 : w2.heap.size ≤ w3.heap.size := Below.size hb
        have B4 := below_next (Nat.le_refl _) B3 hb
        have Kb4 := Kb3.below hb Kb3.lt
        have P4 := P3.below hb
        clear B3 Kb3 P3 Kbc0 Kbc1 Kbc2 Kbc3 Kbc4 Kbc5 hb
        have Kbc0 : w3.cell? ⟨w1.heap.size, 0, none⟩ = some (.int .i64 o) := Kb4.cell 0
        have Kbc1 : w3.cell? ⟨w1.heap.size, 1, none⟩ = some (.int .i64 l) := Kb4.cell 1
        have Kbc2 : w3.cell? ⟨w1.heap.size, 2, none⟩ = some (.int .i64 m) := Kb4.cell 2
        have Kbc3 : w3.cell? ⟨w1.heap.size, 3, none⟩ = some (.slice A2 ps.length c2) := Kb4.cell 3
        have Kbc4 : w3.cell? ⟨w1.heap.size, 4, none⟩ = some (.int .i64 b) := Kb4.cell 4
        have Kbc5 : w3.cell? ⟨w1.heap.size, 5, none⟩ = some (.int .i64 t) := Kb4.cell 5
        go_wp2_with fail
        refine ((unhide CN) _ (P4.pr (Nat.le_refl _))).mono ?_; rintro e w4 ⟨rfl, hb⟩
        have s5 : w3.heap.size ≤ w4.heap.size := Below.size hb
        have B5 := below_next (Nat.le_refl _) B4 hb
        have Kb5 := Kb4.below hb Kb4.lt
        have P5 := P4.below hb
        clear B4 Kb4 P4 Kbc0 Kbc1 Kbc2 Kbc3 Kbc4 Kbc5 hb
        have Kbc0 : w4.cell? ⟨w1.heap.size, 0, none⟩ = some (.int .i64 o) := Kb5.cell 0
        have Kbc1 : w4.cell? ⟨w1.heap.size, 1, none⟩ = some (.int .i64 l) := Kb5.cell 1
        have Kbc2 : w4.cell? ⟨w1.heap.size, 2, none⟩ = some (.int .i64 m) := Kb5.cell 2
        have Kbc3 : w4.cell? ⟨w1.heap.size, 3, none⟩ = some (.slice A2 ps.length c2) := Kb5.cell 3
        have Kbc4 : w4.cell? ⟨w1.heap.size, 4, none⟩ = some (.int .i64 b) := Kb5.cell 4
        have Kbc5 : w4.cell? ⟨w1.heap.size, 5, none⟩ = some (.int .i64 t) := Kb5.cell 5
        go_wp2_with fail
        refine ((unhide CW) _ (P5.pr (Nat.le_refl _))).mono ?_; rintro e w5 ⟨rfl, hb⟩
        have s6 : w4.heap.size ≤ w5.heap.size := Below.size hb
        have B6 := below_next (Nat.le_refl _) B5 hb
        have Kb6 := Kb5.below hb Kb5.lt
        have P6 := P5.below hb
        clear B5 Kb5 P5 Kbc0 Kbc1 Kbc2 Kbc3 Kbc4 Kbc5 hb
        have Kbc0 : w5.cell? ⟨w1.heap.size, 0, none⟩ = some (.int .i64 o) := Kb6.cell 0
        have Kbc1 : w5.cell? ⟨w1.heap.size, 1, none⟩ = some (.int .i64 l) := Kb6.cell 1
        have Kbc2 : w5.cell? ⟨w1.heap.size, 2, none⟩ = some (.int .i64 m) := Kb6.cell 2
        have Kbc3 : w5.cell? ⟨w1.heap.size, 3, none⟩ = some (.slice A2 ps.length c2) := Kb6.cell 3
        have Kbc4 : w5.cell? ⟨w1.heap.size, 4, none⟩ = some (.int .i64 b) := Kb6.cell 4
        have Kbc5 : w5.cell? ⟨w1.heap.size, 5, none⟩ = some (.int .i64 t) := Kb6.cell 5
        go_wp2_with fail
        have s0 : Below w5.heap.size w5 w5.drew ∧ w5.drew.cell? ⟨w1.heap.size, 0, none⟩ = some (.int .i64 o) ∧ w5.drew.cell? ⟨w1.heap.size, 1, none⟩ = some (.int .i64 l) ∧ w5.drew.cell? ⟨w1.heap.size, 2, none⟩ = some (.int .i64 m) ∧ w5.drew.cell? ⟨w1.heap.size, 3, none⟩ = some (.slice A2 ps.length c2) ∧ w5.drew.cell? ⟨w1.heap.size, 4, none⟩ = some (.int .i64 b) ∧ w5.drew.cell? ⟨w1.heap.size, 5, none⟩ = some (.int .i64 t) := ⟨(Below.refl _ _).drew, Kb6.cell 0, Kb6.cell 1, Kb6.cell 2, Kb6.cell 3, Kb6.cell 4, Kb6.cell 5⟩
        clear Kbc0 Kbc1 Kbc2 Kbc3 Kbc4 Kbc5
        refine wp_region_held_drew (S := (fun W => Below w5.heap.size w5 W ∧ W.cell? ⟨w1.heap.size, 0, none⟩ = some (.int .i64 o) ∧ W.cell? ⟨w1.heap.size, 1, none⟩ = some (.int .i64 l) ∧ W.cell? ⟨w1.heap.size, 2, none⟩ = some (.int .i64 m) ∧ W.cell? ⟨w1.heap.size, 3, none⟩ = some (.slice A2 ps.length c2) ∧ W.cell? ⟨w1.heap.size, 4, none⟩ = some (.int .i64 b) ∧ W.cell? ⟨w1.heap.size, 5, none⟩ = some (.int .i64 t))) (by kernel_rfl) (by first | assumption | exact s0 | exact keep6 (by assumption) (by assumption)) (fun hHeld => ?_)
        refine wpAnyH_take (i := 0) (oi := { dst := some 45, op := Op.move (Operand.tmp 5), type := 3, pos := "laws.go:395", after := #[], guard := none }) (v := ?_) rfl (by kernel_rfl) (by kernel_rfl) (by kernel_rfl) (fun _ _ _ h => h) (Or.inl ⟨by rfl, ?_⟩) (by assumption) ?_; rotate_left
        · intro W hW; (try dsimp only at hW); go_simp;  try (with_reducible rfl)
        try simp only [Act.put, List.setIfInBounds_toArray, List.set_cons_zero, List.set_cons_succ]
        refine wpAnyH_take (i := 1) (oi := { dst := some 46, op := Op.fieldAddr 31 (Operand.tmp 3) 0, type := 0, pos := "laws.go:395", after := #[], guard := none }) (v := ?_) rfl (by kernel_rfl) (by kernel_rfl) (by kernel_rfl) (fun _ _ _ h => h) (Or.inl ⟨by rfl, ?_⟩) (by assumption) ?_; rotate_left
        · intro W hW; (try dsimp only at hW); go_simp;  try (with_reducible rfl)
        try simp only [Act.put, List.setIfInBounds_toArray, List.set_cons_zero, List.set_cons_succ]
        refine wpAnyH_take (i := 2) (oi := { dst := some 47, op := Op.load 28 (Operand.tmp 46), type := 28, pos := "laws.go:395", after := #[{ on := 1, ground := Ground.data }], guard := none }) (v := ?_) rfl (by kernel_rfl) (by kernel_rfl) (by kernel_rfl) (fun _ _ _ h => h) (Or.inl ⟨by rfl, ?_⟩) (by assumption) ?_; rotate_left
        · intro W hW; (try dsimp only at hW); go_simp;  try (with_reducible rfl)
        try simp only [Act.put, List.setIfInBounds_toArray, List.set_cons_zero, List.set_cons_succ]
        refine wpAnyH_take (i := 5) (oi := { dst := some 50, op := Op.fieldAddr 31 (Operand.tmp 3) 1, type := 0, pos := "laws.go:395", after := #[], guard := none }) (v := ?_) rfl (by kernel_rfl) (by kernel_rfl) (by kernel_rfl) (fun _ _ _ h => h) (Or.inl ⟨by rfl, ?_⟩) (by assumption) ?_; rotate_left
        · intro W hW; (try dsimp only at hW); go_simp;  try (with_reducible rfl)
        try simp only [Act.put, List.setIfInBounds_toArray, List.set_cons_zero, List.set_cons_succ]
        refine wpAnyH_take (i := 6) (oi := { dst := some 51, op := Op.load 29 (Operand.tmp 50), type := 29, pos := "laws.go:395", after := #[{ on := 5, ground := Ground.data }], guard := none }) (v := ?_) rfl (by kernel_rfl) (by kernel_rfl) (by kernel_rfl) (fun _ _ _ h => h) (Or.inl ⟨by rfl, ?_⟩) (by assumption) ?_; rotate_left
        · intro W hW; (try dsimp only at hW); go_simp;  try (with_reducible rfl)
        try simp only [Act.put, List.setIfInBounds_toArray, List.set_cons_zero, List.set_cons_succ]
        refine wpAnyH_take (i := 7) (oi := { dst := some 52, op := Op.call { callee := Callee.builtin Builtin.len, args := #[Operand.tmp 51], argTypes := #[29] }, type := 3, pos := "laws.go:395", after := #[{ on := 6, ground := Ground.data }], guard := none }) (v := ?_) rfl (by kernel_rfl) (by kernel_rfl) (by kernel_rfl) (fun _ _ _ h => h) (Or.inl ⟨by rfl, ?_⟩) (by assumption) ?_; rotate_left
        · intro W hW; (try dsimp only at hW); go_simp;  try (with_reducible rfl)
        try simp only [Act.put, List.setIfInBounds_toArray, List.set_cons_zero, List.set_cons_succ]
        refine wpAnyH_ready (rs := [3]) (by kernel_rfl) (by simp) (AllReadyH.cons (i := 3) (o := { dst := some 48, op := Op.call { callee := Callee.value (Operand.func 34), args := #[Operand.tmp 47], argTypes := #[28] }, type := 3, pos := "laws.go:395", after := #[{ on := 2, ground := Ground.data }], guard := none }) rfl (fun K hK => ?_) AllReadyH.nil)
        go_simp
        refine ((unhide CE) _).mono ?_; rintro e y1 ⟨rfl, hb⟩
        try go_wp2_with fail
        refine hK.out _ _ (by (try dsimp only); first | assumption | exact s0 | exact keep6 (by assumption) (by assumption)) (fun hHeld => ?_)
        clear hK K
        try simp only [Act.put, List.setIfInBounds_toArray, List.set_cons_zero, List.set_cons_succ]
        refine wpAnyH_take (i := 4) (oi := { dst := some 49, op := Op.binOp BinOp.add 3 (Operand.tmp 48) (Operand.const (Value.int IntKind.i64 1)) 3, type := 3, pos := "laws.go:395", after := #[{ on := 3, ground := Ground.data }], guard := none }) (v := ?_) rfl (by kernel_rfl) (by kernel_rfl) (by kernel_rfl) (fun _ _ _ h => h) (Or.inl ⟨by rfl, ?_⟩) (by assumption) ?_; rotate_left
        · intro W hW; (try dsimp only at hW); go_simp;  try (with_reducible rfl)
        try simp only [Act.put, List.setIfInBounds_toArray, List.set_cons_zero, List.set_cons_succ]
        refine wpAnyH_take (i := 8) (oi := { dst := some 53, op := Op.binOp BinOp.add 3 (Operand.tmp 49) (Operand.tmp 52) 3, type := 3, pos := "laws.go:395", after := #[{ on := 4, ground := Ground.data }, { on := 7, ground := Ground.data }], guard := none }) (v := ?_) rfl (by kernel_rfl) (by kernel_rfl) (by kernel_rfl) (fun _ _ _ h => h) (Or.inl ⟨by rfl, ?_⟩) (by assumption) ?_; rotate_left
        · intro W hW; (try dsimp only at hW); go_simp;  try (with_reducible rfl)
        try simp only [Act.put, List.setIfInBounds_toArray, List.set_cons_zero, List.set_cons_succ]
        refine wpAnyH_take (i := 9) (oi := { dst := some 54, op := Op.binOp BinOp.eql 3 (Operand.tmp 45) (Operand.tmp 53) 3, type := 4, pos := "laws.go:395", after := #[{ on := 0, ground := Ground.data }, { on := 8, ground := Ground.data }], guard := none }) (v := ?_) rfl (by kernel_rfl) (by kernel_rfl) (by kernel_rfl) (fun _ _ _ h => h) (Or.inl ⟨by rfl, ?_⟩) (by assumption) ?_; rotate_left
        · intro W hW; (try dsimp only at hW); go_simp;  try (with_reducible rfl)
        try simp only [Act.put, List.setIfInBounds_toArray, List.set_cons_zero, List.set_cons_succ]
        refine wpAnyH_take (i := 10) (oi := { dst := some 55, op := Op.move (Operand.tmp 54), type := 4, pos := "laws.go:395", after := #[{ on := 9, ground := Ground.data }, { on := 3, ground := Ground.chain }], guard := none }) (v := ?_) rfl (by kernel_rfl) (by kernel_rfl) (by kernel_rfl) (fun _ _ _ h => h) (Or.inl ⟨by rfl, ?_⟩) (by assumption) ?_; rotate_left
        · intro W hW; (try dsimp only at hW); go_simp;  try (with_reducible rfl)
        try simp only [Act.put, List.setIfInBounds_toArray, List.set_cons_zero, List.set_cons_succ]
        refine wpAnyH_take (i := 11) (oi := { dst := some 56, op := Op.move (Operand.tmp 7), type := 4, pos := "laws.go:395", after := #[{ on := 10, ground := Ground.guard }], guard := some (10, true) }) (v := ?_) rfl (by kernel_rfl) (by kernel_rfl) (by kernel_rfl) (fun _ _ _ h => h) (Or.inl ⟨by rfl, ?_⟩) (by assumption) ?_; rotate_left
        · intro W hW; (try dsimp only at hW); go_simp;  try (with_reducible rfl)
        try simp only [Act.put, List.setIfInBounds_toArray, List.set_cons_zero, List.set_cons_succ]
        refine wpAnyH_take (i := 12) (oi := { dst := some 57, op := Op.load 31 (Operand.tmp 3), type := 31, pos := "laws.go:395", after := #[{ on := 10, ground := Ground.guard }], guard := some (10, true) }) (v := ?_) rfl (by kernel_rfl) (by kernel_rfl) (by kernel_rfl) (fun _ _ _ h => h) (Or.inl ⟨by rfl, ?_⟩) (by assumption) ?_; rotate_left
        · intro W hW; (try dsimp only at hW); go_simp;  try (with_reducible rfl)
        try simp only [Act.put, List.setIfInBounds_toArray, List.set_cons_zero, List.set_cons_succ]
        refine wpAnyH_ready (rs := [13]) (by kernel_rfl) (by simp) (AllReadyH.cons (i := 13) (o := { dst := some 58, op := Op.call { callee := Callee.value (Operand.func 42), args := #[Operand.tmp 57], argTypes := #[31] }, type := 4, pos := "laws.go:395", after := #[{ on := 12, ground := Ground.data }, { on := 10, ground := Ground.chain }, { on := 10, ground := Ground.guard }], guard := some (10, true) }) rfl (fun K hK => ?_) AllReadyH.nil)
        go_simp
        refine ((unhide CR) _ ((P6.below hHeld.1).pr (Nat.le_refl _))).mono ?_; rintro e y2 ⟨rfl, hb⟩
        try go_wp2_with fail
        refine hK.out _ _ (by (try dsimp only); first | assumption | exact s0 | exact keep6 (by assumption) (by assumption)) (fun hHeld => ?_)
        clear hK K
        try simp only [Act.put, List.setIfInBounds_toArray, List.set_cons_zero, List.set_cons_succ]
        refine wpAnyH_take (i := 14) (oi := { dst := some 59, op := Op.binOp BinOp.eql 4 (Operand.tmp 56) (Operand.tmp 58) 4, type := 4, pos := "laws.go:395", after := #[{ on := 11, ground := Ground.data }, { on := 13, ground := Ground.data }, { on := 10, ground := Ground.guard }], guard := some (10, true) }) (v := ?_) rfl (by kernel_rfl) (by kernel_rfl) (by kernel_rfl) (fun _ _ _ h => h) (Or.inl ⟨by rfl, ?_⟩) (by assumption) ?_; rotate_left
        · intro W hW; (try dsimp only at hW); go_simp;  try (with_reducible rfl)
        try simp only [Act.put, List.setIfInBounds_toArray, List.set_cons_zero, List.set_cons_succ]
        refine wpAnyH_take (i := 15) (oi := { dst := some 60, op := Op.pick (Operand.tmp 55) (Operand.tmp 59) (Operand.const (Value.bool false)), type := 4, pos := "laws.go:395", after := #[{ on := 10, ground := Ground.data }, { on := 14, ground := Ground.data }], guard := none }) (v := ?_) rfl (by kernel_rfl) (by kernel_rfl) (by kernel_rfl) (fun _ _ _ h => h) (Or.inl ⟨by rfl, ?_⟩) (by assumption) ?_; rotate_left
        · intro W hW; (try dsimp only at hW); go_simp;  try (with_reducible rfl)
        try simp only [Act.put, List.setIfInBounds_toArray, List.set_cons_zero, List.set_cons_succ]
        refine wpAnyH_take (i := 16) (oi := { dst := some 61, op := Op.move (Operand.tmp 60), type := 4, pos := "laws.go:395", after := #[{ on := 15, ground := Ground.data }, { on := 13, ground := Ground.chain }], guard := none }) (v := ?_) rfl (by kernel_rfl) (by kernel_rfl) (by kernel_rfl) (fun _ _ _ h => h) (Or.inl ⟨by rfl, ?_⟩) (by assumption) ?_; rotate_left
        · intro W hW; (try dsimp only at hW); go_simp;  try (with_reducible rfl)
        try simp only [Act.put, List.setIfInBounds_toArray, List.set_cons_zero, List.set_cons_succ]
        refine wpAnyH_take (i := 17) (oi := { dst := some 62, op := Op.move (Operand.tmp 4), type := 3, pos := "laws.go:395", after := #[{ on := 16, ground := Ground.guard }], guard := some (16, true) }) (v := ?_) rfl (by kernel_rfl) (by kernel_rfl) (by kernel_rfl) (fun _ _ _ h => h) (Or.inl ⟨by rfl, ?_⟩) (by assumption) ?_; rotate_left
        · intro W hW; (try dsimp only at hW); go_simp;  try (with_reducible rfl)
        try simp only [Act.put, List.setIfInBounds_toArray, List.set_cons_zero, List.set_cons_succ]
        refine wpAnyH_take (i := 18) (oi := { dst := some 63, op := Op.move (Operand.tmp 5), type := 3, pos := "laws.go:395", after := #[{ on := 16, ground := Ground.guard }], guard := some (16, true) }) (v := ?_) rfl (by kernel_rfl) (by kernel_rfl) (by kernel_rfl) (fun _ _ _ h => h) (Or.inl ⟨by rfl, ?_⟩) (by assumption) ?_; rotate_left
        · intro W hW; (try dsimp only at hW); go_simp;  try (with_reducible rfl)
        try simp only [Act.put, List.setIfInBounds_toArray, List.set_cons_zero, List.set_cons_succ]
        refine wpAnyH_take (i := 19) (oi := { dst := some 64, op := Op.binOp BinOp.eql 3 (Operand.tmp 62) (Operand.tmp 63) 3, type := 4, pos := "laws.go:395", after := #[{ on := 17, ground := Ground.data }, { on := 18, ground := Ground.data }, { on := 16, ground := Ground.guard }], guard := some (16, true) }) (v := ?_) rfl (by kernel_rfl) (by kernel_rfl) (by kernel_rfl) (fun _ _ _ h => h) (Or.inl ⟨by rfl, ?_⟩) (by assumption) ?_; rotate_left
        · intro W hW; (try dsimp only at hW); go_simp;  try (with_reducible rfl)
        try simp only [Act.put, List.setIfInBounds_toArray, List.set_cons_zero, List.set_cons_succ]
        refine wpAnyH_take (i := 20) (oi := { dst := some 65, op := Op.load 31 (Operand.tmp 3), type := 31, pos := "laws.go:395", after := #[{ on := 16, ground := Ground.guard }], guard := some (16, true) }) (v := ?_) rfl (by kernel_rfl) (by kernel_rfl) (by kernel_rfl) (fun _ _ _ h => h) (Or.inl ⟨by rfl, ?_⟩) (by assumption) ?_; rotate_left
        · intro W hW; (try dsimp only at hW); go_simp;  try (with_reducible rfl)
        try simp only [Act.put, List.setIfInBounds_toArray, List.set_cons_zero, List.set_cons_succ]
        refine wpAnyH_ready (rs := [21]) (by kernel_rfl) (by simp) (AllReadyH.cons (i := 21) (o := { dst := some 66, op := Op.call { callee := Callee.value (Operand.func 42), args := #[Operand.tmp 65], argTypes := #[31] }, type := 4, pos := "laws.go:395", after := #[{ on := 20, ground := Ground.data }, { on := 16, ground := Ground.chain }, { on := 16, ground := Ground.guard }], guard := some (16, true) }) rfl (fun K hK => ?_) AllReadyH.nil)
        go_simp
        refine ((unhide CR) _ ((P6.below hHeld.1).pr (Nat.le_refl _))).mono ?_; rintro e y3 ⟨rfl, hb⟩
        try go_wp2_with fail
        refine hK.out _ _ (by (try dsimp only); first | assumption | exact s0 | exact keep6 (by assumption) (by assumption)) (fun hHeld => ?_)
        clear hK K
        try simp only [Act.put, List.setIfInBounds_toArray, List.set_cons_zero, List.set_cons_succ]
        refine wpAnyH_take (i := 22) (oi := { dst := some 67, op := Op.binOp BinOp.eql 4 (Operand.tmp 64) (Operand.tmp 66) 4, type := 4, pos := "laws.go:395", after := #[{ on := 19, ground := Ground.data }, { on := 21, ground := Ground.data }, { on := 16, ground := Ground.guard }], guard := some (16, true) }) (v := ?_) rfl (by kernel_rfl) (by kernel_rfl) (by kernel_rfl) (fun _ _ _ h => h) (Or.inl ⟨by rfl, ?_⟩) (by assumption) ?_; rotate_left
        · intro W hW; (try dsimp only at hW); go_simp;  try (with_reducible rfl)
        try simp only [Act.put, List.setIfInBounds_toArray, List.set_cons_zero, List.set_cons_succ]
        refine wpAnyH_take (i := 23) (oi := { dst := some 68, op := Op.pick (Operand.tmp 61) (Operand.tmp 67) (Operand.const (Value.bool false)), type := 4, pos := "laws.go:395", after := #[{ on := 16, ground := Ground.data }, { on := 22, ground := Ground.data }], guard := none }) (v := ?_) rfl (by kernel_rfl) (by kernel_rfl) (by kernel_rfl) (fun _ _ _ h => h) (Or.inl ⟨by rfl, ?_⟩) (by assumption) ?_; rotate_left
        · intro W hW; (try dsimp only at hW); go_simp;  try (with_reducible rfl)
        try simp only [Act.put, List.setIfInBounds_toArray, List.set_cons_zero, List.set_cons_succ]
        refine wpAnyH_take (i := 24) (oi := { dst := some 69, op := Op.move (Operand.tmp 68), type := 4, pos := "laws.go:395", after := #[{ on := 23, ground := Ground.data }, { on := 21, ground := Ground.chain }], guard := none }) (v := ?_) rfl (by kernel_rfl) (by kernel_rfl) (by kernel_rfl) (fun _ _ _ h => h) (Or.inl ⟨by rfl, ?_⟩) (by assumption) ?_; rotate_left
        · intro W hW; (try dsimp only at hW); go_simp;  try (with_reducible rfl)
        try simp only [Act.put, List.setIfInBounds_toArray, List.set_cons_zero, List.set_cons_succ]
        refine wpAnyH_take (i := 25) (oi := { dst := some 70, op := Op.move (Operand.tmp 4), type := 3, pos := "laws.go:395", after := #[{ on := 24, ground := Ground.guard }], guard := some (24, true) }) (v := ?_) rfl (by kernel_rfl) (by kernel_rfl) (by kernel_rfl) (fun _ _ _ h => h) (Or.inl ⟨by rfl, ?_⟩) (by assumption) ?_; rotate_left
        · intro W hW; (try dsimp only at hW); go_simp;  try (with_reducible rfl)
        try simp only [Act.put, List.setIfInBounds_toArray, List.set_cons_zero, List.set_cons_succ]
        refine wpAnyH_take (i := 26) (oi := { dst := some 71, op := Op.move (Operand.tmp 5), type := 3, pos := "laws.go:395", after := #[{ on := 24, ground := Ground.guard }], guard := some (24, true) }) (v := ?_) rfl (by kernel_rfl) (by kernel_rfl) (by kernel_rfl) (fun _ _ _ h => h) (Or.inl ⟨by rfl, ?_⟩) (by assumption) ?_; rotate_left
        · intro W hW; (try dsimp only at hW); go_simp;  try (with_reducible rfl)
        try simp only [Act.put, List.setIfInBounds_toArray, List.set_cons_zero, List.set_cons_succ]
        refine wpAnyH_take (i := 27) (oi := { dst := some 72, op := Op.binOp BinOp.eql 3 (Operand.tmp 70) (Operand.tmp 71) 3, type := 4, pos := "laws.go:395", after := #[{ on := 25, ground := Ground.data }, { on := 26, ground := Ground.data }, { on := 24, ground := Ground.guard }], guard := some (24, true) }) (v := ?_) rfl (by kernel_rfl) (by kernel_rfl) (by kernel_rfl) (fun _ _ _ h => h) (Or.inl ⟨by rfl, ?_⟩) (by assumption) ?_; rotate_left
        · intro W hW; (try dsimp only at hW); go_simp;  try (with_reducible rfl)
        try simp only [Act.put, List.setIfInBounds_toArray, List.set_cons_zero, List.set_cons_succ]
        refine wpAnyH_take (i := 28) (oi := { dst := some 73, op := Op.move (Operand.tmp 72), type := 4, pos := "laws.go:395", after := #[{ on := 27, ground := Ground.data }, { on := 24, ground := Ground.chain }, { on := 24, ground := Ground.guard }], guard := some (24, true) }) (v := ?_) rfl (by kernel_rfl) (by kernel_rfl) (by kernel_rfl) (fun _ _ _ h => h) (Or.inl ⟨by rfl, ?_⟩) (by assumption) ?_; rotate_left
        · intro W hW; (try dsimp only at hW); go_simp;  try (with_reducible rfl)
        try simp only [Act.put, List.setIfInBounds_toArray, List.set_cons_zero, List.set_cons_succ]
        refine wpAnyH_take (i := 29) (oi := { dst := some 74, op := Op.move (Operand.tmp 4), type := 3, pos := "laws.go:395", after := #[{ on := 28, ground := Ground.guard }], guard := some (28, false) }) rfl (by kernel_rfl) (by kernel_rfl) (by kernel_rfl) (fun _ _ _ h => h) (Or.inr ⟨by rfl, rfl⟩) (by assumption) ?_
        try simp only [Act.put, List.setIfInBounds_toArray, List.set_cons_zero, List.set_cons_succ]
        refine wpAnyH_take (i := 30) (oi := { dst := some 75, op := Op.move (Operand.tmp 5), type := 3, pos := "laws.go:395", after := #[{ on := 28, ground := Ground.guard }], guard := some (28, false) }) rfl (by kernel_rfl) (by kernel_rfl) (by kernel_rfl) (fun _ _ _ h => h) (Or.inr ⟨by rfl, rfl⟩) (by assumption) ?_
        try simp only [Act.put, List.setIfInBounds_toArray, List.set_cons_zero, List.set_cons_succ]
        refine wpAnyH_take (i := 31) (oi := { dst := some 76, op := Op.binOp BinOp.sub 3 (Operand.tmp 75) (Operand.const (Value.int IntKind.i64 1)) 3, type := 3, pos := "laws.go:395", after := #[{ on := 30, ground := Ground.data }, { on := 28, ground := Ground.guard }], guard := some (28, false) }) rfl (by kernel_rfl) (by kernel_rfl) (by kernel_rfl) (fun _ _ _ h => h) (Or.inr ⟨by rfl, rfl⟩) (by assumption) ?_
        try simp only [Act.put, List.setIfInBounds_toArray, List.set_cons_zero, List.set_cons_succ]
        refine wpAnyH_take (i := 32) (oi := { dst := some 77, op := Op.binOp BinOp.eql 3 (Operand.tmp 74) (Operand.tmp 76) 3, type := 4, pos := "laws.go:395", after := #[{ on := 29, ground := Ground.data }, { on := 31, ground := Ground.data }, { on := 28, ground := Ground.guard }], guard := some (28, false) }) rfl (by kernel_rfl) (by kernel_rfl) (by kernel_rfl) (fun _ _ _ h => h) (Or.inr ⟨by rfl, rfl⟩) (by assumption) ?_
        try simp only [Act.put, List.setIfInBounds_toArray, List.set_cons_zero, List.set_cons_succ]
        refine wpAnyH_take (i := 33) (oi := { dst := some 78, op := Op.pick (Operand.tmp 73) (Operand.const (Value.bool true)) (Operand.tmp 77), type := 4, pos := "laws.go:395", after := #[{ on := 28, ground := Ground.data }, { on := 32, ground := Ground.data }, { on := 24, ground := Ground.guard }], guard := some (24, true) }) (v := ?_) rfl (by kernel_rfl) (by kernel_rfl) (by kernel_rfl) (fun _ _ _ h => h) (Or.inl ⟨by rfl, ?_⟩) (by assumption) ?_; rotate_left
        · intro W hW; (try dsimp only at hW); go_simp;  try (with_reducible rfl)
        try simp only [Act.put, List.setIfInBounds_toArray, List.set_cons_zero, List.set_cons_succ]
        refine wpAnyH_take (i := 34) (oi := { dst := some 79, op := Op.pick (Operand.tmp 69) (Operand.tmp 78) (Operand.const (Value.bool false)), type := 4, pos := "laws.go:395", after := #[{ on := 24, ground := Ground.data }, { on := 33, ground := Ground.data }], guard := none }) (v := ?_) rfl (by kernel_rfl) (by kernel_rfl) (by kernel_rfl) (fun _ _ _ h => h) (Or.inl ⟨by rfl, ?_⟩) (by assumption) ?_; rotate_left
        · intro W hW; (try dsimp only at hW); go_simp;  try (with_reducible rfl)
        try simp only [Act.put, List.setIfInBounds_toArray, List.set_cons_zero, List.set_cons_succ]
        refine wpAnyH_take (i := 35) (oi := { dst := some 80, op := Op.move (Operand.tmp 79), type := 4, pos := "laws.go:395", after := #[{ on := 34, ground := Ground.data }, { on := 28, ground := Ground.chain }], guard := none }) (v := ?_) rfl (by kernel_rfl) (by kernel_rfl) (by kernel_rfl) (fun _ _ _ h => h) (Or.inl ⟨by rfl, ?_⟩) (by assumption) ?_; rotate_left
        · intro W hW; (try dsimp only at hW); go_simp;  try (with_reducible rfl)
        try simp only [Act.put, List.setIfInBounds_toArray, List.set_cons_zero, List.set_cons_succ]
        refine wpAnyH_take (i := 36) (oi := { dst := some 81, op := Op.load 31 (Operand.tmp 3), type := 31, pos := "laws.go:395", after := #[{ on := 35, ground := Ground.guard }], guard := some (35, true) }) (v := ?_) rfl (by kernel_rfl) (by kernel_rfl) (by kernel_rfl) (fun _ _ _ h => h) (Or.inl ⟨by rfl, ?_⟩) (by assumption) ?_; rotate_left
        · intro W hW; (try dsimp only at hW); go_simp;  try (with_reducible rfl)
        try simp only [Act.put, List.setIfInBounds_toArray, List.set_cons_zero, List.set_cons_succ]
        refine wpAnyH_take (i := 38) (oi := { dst := some 83, op := Op.fieldAddr 31 (Operand.tmp 3) 3, type := 0, pos := "laws.go:395", after := #[{ on := 35, ground := Ground.guard }], guard := some (35, true) }) (v := ?_) rfl (by kernel_rfl) (by kernel_rfl) (by kernel_rfl) (fun _ _ _ h => h) (Or.inl ⟨by rfl, ?_⟩) (by assumption) ?_; rotate_left
        · intro W hW; (try dsimp only at hW); go_simp;  try (with_reducible rfl)
        try simp only [Act.put, List.setIfInBounds_toArray, List.set_cons_zero, List.set_cons_succ]
        refine wpAnyH_take (i := 39) (oi := { dst := some 84, op := Op.load 3 (Operand.tmp 83), type := 3, pos := "laws.go:395", after := #[{ on := 38, ground := Ground.data }, { on := 35, ground := Ground.guard }], guard := some (35, true) }) (v := ?_) rfl (by kernel_rfl) (by kernel_rfl) (by kernel_rfl) (fun _ _ _ h => h) (Or.inl ⟨by rfl, ?_⟩) (by assumption) ?_; rotate_left
        · intro W hW; (try dsimp only at hW); go_simp;  try (with_reducible rfl)
        try simp only [Act.put, List.setIfInBounds_toArray, List.set_cons_zero, List.set_cons_succ]
        refine wpAnyH_take (i := 40) (oi := { dst := some 85, op := Op.binOp BinOp.geq 3 (Operand.tmp 84) (Operand.const (Value.int IntKind.i64 0)) 3, type := 4, pos := "laws.go:395", after := #[{ on := 39, ground := Ground.data }, { on := 35, ground := Ground.guard }], guard := some (35, true) }) (v := ?_) rfl (by kernel_rfl) (by kernel_rfl) (by kernel_rfl) (fun _ _ _ h => h) (Or.inl ⟨by rfl, ?_⟩) (by assumption) ?_; rotate_left
        · intro W hW; (try dsimp only at hW); go_simp;  try (with_reducible rfl)
        try simp only [Act.put, List.setIfInBounds_toArray, List.set_cons_zero, List.set_cons_succ]
        refine wpAnyH_ready (rs := [37]) (by kernel_rfl) (by simp) (AllReadyH.cons (i := 37) (o := { dst := some 82, op := Op.call { callee := Callee.value (Operand.func 42), args := #[Operand.tmp 81], argTypes := #[31] }, type := 4, pos := "laws.go:395", after := #[{ on := 36, ground := Ground.data }, { on := 35, ground := Ground.chain }, { on := 35, ground := Ground.guard }], guard := some (35, true) }) rfl (fun K hK => ?_) AllReadyH.nil)
        go_simp
        refine ((unhide CR) _ ((P6.below hHeld.1).pr (Nat.le_refl _))).mono ?_; rintro e y4 ⟨rfl, hb⟩
        try go_wp2_with fail
        refine hK.out _ _ (by (try dsimp only); first | assumption | exact s0 | exact keep6 (by assumption) (by assumption)) (fun hHeld => ?_)
        clear hK K
        try simp only [Act.put, List.setIfInBounds_toArray, List.set_cons_zero, List.set_cons_succ]
        refine wpAnyH_take (i := 41) (oi := { dst := some 86, op := Op.move (Operand.tmp 85), type := 4, pos := "laws.go:395", after := #[{ on := 40, ground := Ground.data }, { on := 37, ground := Ground.chain }, { on := 35, ground := Ground.guard }], guard := some (35, true) }) (v := ?_) rfl (by kernel_rfl) (by kernel_rfl) (by kernel_rfl) (fun _ _ _ h => h) (Or.inl ⟨by rfl, ?_⟩) (by assumption) ?_; rotate_left
        · intro W hW; (try dsimp only at hW); go_simp;  try (with_reducible rfl)
        try simp only [Act.put, List.setIfInBounds_toArray, List.set_cons_zero, List.set_cons_succ]
        refine wpAnyH_take (i := 42) (oi := { dst := some 87, op := Op.move (Operand.tmp 5), type := 3, pos := "laws.go:395", after := #[{ on := 41, ground := Ground.guard }], guard := some (41, true) }) (v := ?_) rfl (by kernel_rfl) (by kernel_rfl) (by kernel_rfl) (fun _ _ _ h => h) (Or.inl ⟨by rfl, ?_⟩) (by assumption) ?_; rotate_left
        · intro W hW; (try dsimp only at hW); go_simp;  try (with_reducible rfl)
        try simp only [Act.put, List.setIfInBounds_toArray, List.set_cons_zero, List.set_cons_succ]
        refine wpAnyH_take (i := 43) (oi := { dst := some 88, op := Op.fieldAddr 31 (Operand.tmp 3) 0, type := 0, pos := "laws.go:395", after := #[{ on := 41, ground := Ground.guard }], guard := some (41, true) }) (v := ?_) rfl (by kernel_rfl) (by kernel_rfl) (by kernel_rfl) (fun _ _ _ h => h) (Or.inl ⟨by rfl, ?_⟩) (by assumption) ?_; rotate_left
        · intro W hW; (try dsimp only at hW); go_simp;  try (with_reducible rfl)
        try simp only [Act.put, List.setIfInBounds_toArray, List.set_cons_zero, List.set_cons_succ]
        refine wpAnyH_take (i := 44) (oi := { dst := some 89, op := Op.load 28 (Operand.tmp 88), type := 28, pos := "laws.go:395", after := #[{ on := 43, ground := Ground.data }, { on := 41, ground := Ground.guard }], guard := some (41, true) }) (v := ?_) rfl (by kernel_rfl) (by kernel_rfl) (by kernel_rfl) (fun _ _ _ h => h) (Or.inl ⟨by rfl, ?_⟩) (by assumption) ?_; rotate_left
        · intro W hW; (try dsimp only at hW); go_simp;  try (with_reducible rfl)
        try simp only [Act.put, List.setIfInBounds_toArray, List.set_cons_zero, List.set_cons_succ]
        refine wpAnyH_ready (rs := [45]) (by kernel_rfl) (by simp) (AllReadyH.cons (i := 45) (o := { dst := some 90, op := Op.call { callee := Callee.value (Operand.func 50), args := #[Operand.tmp 89], argTypes := #[28] }, type := 3, pos := "laws.go:395", after := #[{ on := 44, ground := Ground.data }, { on := 41, ground := Ground.chain }, { on := 41, ground := Ground.guard }], guard := some (41, true) }) rfl (fun K hK => ?_) AllReadyH.nil)
        go_simp
        refine ((unhide CL) _).mono ?_; rintro e y5 ⟨rfl, hb⟩
        try go_wp2_with fail
        refine hK.out _ _ (by (try dsimp only); first | assumption | exact s0 | exact keep6 (by assumption) (by assumption)) (fun hHeld => ?_)
        clear hK K
        try simp only [Act.put, List.setIfInBounds_toArray, List.set_cons_zero, List.set_cons_succ]
        refine wpAnyH_take (i := 46) (oi := { dst := some 91, op := Op.binOp BinOp.leq 3 (Operand.tmp 87) (Operand.tmp 90) 3, type := 4, pos := "laws.go:395", after := #[{ on := 42, ground := Ground.data }, { on := 45, ground := Ground.data }, { on := 41, ground := Ground.guard }], guard := some (41, true) }) (v := ?_) rfl (by kernel_rfl) (by kernel_rfl) (by kernel_rfl) (fun _ _ _ h => h) (Or.inl ⟨by rfl, ?_⟩) (by assumption) ?_; rotate_left
        · intro W hW; (try dsimp only at hW); go_simp;  try (with_reducible rfl)
        try simp only [Act.put, List.setIfInBounds_toArray, List.set_cons_zero, List.set_cons_succ]
        refine wpAnyH_take (i := 47) (oi := { dst := some 92, op := Op.pick (Operand.tmp 86) (Operand.tmp 91) (Operand.const (Value.bool false)), type := 4, pos := "laws.go:395", after := #[{ on := 41, ground := Ground.data }, { on := 46, ground := Ground.data }, { on := 35, ground := Ground.guard }], guard := some (35, true) }) (v := ?_) rfl (by kernel_rfl) (by kernel_rfl) (by kernel_rfl) (fun _ _ _ h => h) (Or.inl ⟨by rfl, ?_⟩) (by assumption) ?_; rotate_left
        · intro W hW; (try dsimp only at hW); go_simp;  try (with_reducible rfl)
        try simp only [Act.put, List.setIfInBounds_toArray, List.set_cons_zero, List.set_cons_succ]
        refine wpAnyH_take (i := 48) (oi := { dst := some 93, op := Op.binOp BinOp.eql 4 (Operand.tmp 82) (Operand.tmp 92) 4, type := 4, pos := "laws.go:395", after := #[{ on := 37, ground := Ground.data }, { on := 47, ground := Ground.data }, { on := 35, ground := Ground.guard }], guard := some (35, true) }) (v := ?_) rfl (by kernel_rfl) (by kernel_rfl) (by kernel_rfl) (fun _ _ _ h => h) (Or.inl ⟨by rfl, ?_⟩) (by assumption) ?_; rotate_left
        · intro W hW; (try dsimp only at hW); go_simp;  try (with_reducible rfl)
        try simp only [Act.put, List.setIfInBounds_toArray, List.set_cons_zero, List.set_cons_succ]
        refine wpAnyH_take (i := 49) (oi := { dst := some 94, op := Op.pick (Operand.tmp 80) (Operand.tmp 93) (Operand.const (Value.bool false)), type := 4, pos := "laws.go:395", after := #[{ on := 35, ground := Ground.data }, { on := 48, ground := Ground.data }], guard := none }) (v := ?_) rfl (by kernel_rfl) (by kernel_rfl) (by kernel_rfl) (fun _ _ _ h => h) (Or.inl ⟨by rfl, ?_⟩) (by assumption) ?_; rotate_left
        · intro W hW; (try dsimp only at hW); go_simp;  try (with_reducible rfl)
        try simp only [Act.put, List.setIfInBounds_toArray, List.set_cons_zero, List.set_cons_succ]
        refine wpAnyH_take (i := 50) (oi := { dst := some 2, op := Op.assign (Operand.tmp 94), type := 4, pos := "laws.go:395", after := #[{ on := 49, ground := Ground.data }, { on := 45, ground := Ground.chain }, { on := 0, ground := Ground.phase }, { on := 1, ground := Ground.phase }, { on := 2, ground := Ground.phase }, { on := 3, ground := Ground.phase }, { on := 4, ground := Ground.phase }, { on := 5, ground := Ground.phase }, { on := 6, ground := Ground.phase }, { on := 7, ground := Ground.phase }, { on := 8, ground := Ground.phase }, { on := 9, ground := Ground.phase }, { on := 10, ground := Ground.phase }, { on := 11, ground := Ground.phase }, { on := 12, ground := Ground.phase }, { on := 13, ground := Ground.phase }, { on := 14, ground := Ground.phase }, { on := 15, ground := Ground.phase }, { on := 16, ground := Ground.phase }, { on := 17, ground := Ground.phase }, { on := 18, ground := Ground.phase }, { on := 19, ground := Ground.phase }, { on := 20, ground := Ground.phase }, { on := 21, ground := Ground.phase }, { on := 22, ground := Ground.phase }, { on := 23, ground := Ground.phase }, { on := 24, ground := Ground.phase }, { on := 25, ground := Ground.phase }, { on := 26, ground := Ground.phase }, { on := 27, ground := Ground.phase }, { on := 28, ground := Ground.phase }, { on := 29, ground := Ground.phase }, { on := 30, ground := Ground.phase }, { on := 31, ground := Ground.phase }, { on := 32, ground := Ground.phase }, { on := 33, ground := Ground.phase }, { on := 34, ground := Ground.phase }, { on := 35, ground := Ground.phase }, { on := 36, ground := Ground.phase }, { on := 37, ground := Ground.phase }, { on := 38, ground := Ground.phase }, { on := 39, ground := Ground.phase }, { on := 40, ground := Ground.phase }, { on := 41, ground := Ground.phase }, { on := 42, ground := Ground.phase }, { on := 43, ground := Ground.phase }, { on := 44, ground := Ground.phase }, { on := 45, ground := Ground.phase }, { on := 46, ground := Ground.phase }, { on := 47, ground := Ground.phase }, { on := 48, ground := Ground.phase }, { on := 49, ground := Ground.phase }], guard := none }) (v := ?_) rfl (by kernel_rfl) (by kernel_rfl) (by kernel_rfl) (fun _ _ _ h => h) (Or.inl ⟨by rfl, ?_⟩) (by assumption) ?_; rotate_left
        · intro W hW; (try dsimp only at hW); go_simp;  try (with_reducible rfl)
        try simp only [Act.put, List.setIfInBounds_toArray, List.set_cons_zero, List.set_cons_succ]
        refine wpAnyH_done (by kernel_rfl) ?_ _
        have hE := hHeld.1
        clear hHeld s0
        have s7 : w5.heap.size ≤ y5.heap.size := Below.size hE
        have B7 := below_next (Nat.le_refl _) B6 hE
        have Kb7 := Kb6.below hE Kb6.lt
        have P7 := P6.below hE
        clear B6 Kb6 P6 hE
        go_wp2_with fail
        go_ret
        exact ⟨rfl, B7⟩
  · have B0 : Below w.heap.size w w := Below.refl _ _
    have hnI : (1048576 : Int) < (n : Int) := by omega
    go_enter Try.func10, Try.ntmps10
    go_wp2_with fail
    go_ret
    exact ⟨rfl, B0⟩

end Go.Proofs.Ytegfcpdkehgdpaa

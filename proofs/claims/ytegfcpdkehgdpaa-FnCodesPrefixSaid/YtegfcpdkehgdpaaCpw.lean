/- The walk of FnCodesPrefix. Conditions: a slice of bytes. -/
import Derived.Test.YtegfcpdkehgdpaaDk6
import Derived.Test.YtegfcpdkehgdpaaCpl
namespace Go.Proofs.Ytegfcpdkehgdpaa
open Go.RowKit

theorem after_go {o l m b t x : Int} {ps : List (Int × Int)} (hz : ps.length ≤ 1048576) (h : Sx.aftOK o l m ps b t x = true) (A : Option Addr) (c : Nat) (wx : World) (hp : PR wx wx.heap.size A ps) :
    Calls Try.prog 17 #[kv o l m A ps.length c b t, .int .i64 x] wx fun e w' => ∃ A' c', e = .returned (.tuple #[kv o l m A' (Sx.stepP l m ps b t x).length c' b (Sx.advT l x), .bool true]) ∧ OwnP w' wx.heap.size A' (Sx.stepP l m ps b t x) ∧ Below wx.heap.size wx w' := by
  have := impl_After o l m A c b t x ps wx hp hz
  rw [h] at this
  exact this
set_option maxRecDepth 100000 in
set_option maxHeartbeats 6000000 in
theorem law_FnCodesPrefix (A : Option Addr) (n c : Nat) (w : World) (h : Src w w.heap.size A n) (hc : n ≤ c) (hcm : c ≤ maxLen) :
    Calls Try.prog 7 #[.slice A n c] w fun e w' => e = .returned (.bool true) ∧ Below w.heap.size w w' := by
  by_cases hn : n ≤ 1048576
  · have HD := hide (draw_CodesData A n c w h hn hc hcm)
    have B0 : Below w.heap.size w w := Below.refl _ _
    clear h
    go_enter Try.func7, Try.ntmps7
    go_wp2_with fail
    refine ((unhide HD)).mono ?_; rintro e w1 ⟨o, l, m, A2, c2, b, t, ps, A3, c3, xs, rfl, hl, hcp, hx, hxc, P0, I0, hb⟩
    have s1 : w.heap.size ≤ w1.heap.size := Below.size hb
    have B1 := below_next (Nat.le_refl _) B0 hb
    clear B0 hb
    clear HD
    have P1 := OwnV.pairs P0
    clear P0
    have I1 := OwnV.ints I0
    clear I0
    have s2 : (w1.alloc (.cells #[.int .i64 o, .int .i64 l, .int .i64 m, .slice A2 ps.length c2, .int .i64 b, .int .i64 t] 31)).heap.size = w1.heap.size + 1 := World.size_alloc _ _
    have B2 := B1.alloc B1.size (.cells #[.int .i64 o, .int .i64 l, .int .i64 m, .slice A2 ps.length c2, .int .i64 b, .int .i64 t] 31)
    have P2 := P1.alloc (.cells #[.int .i64 o, .int .i64 l, .int .i64 m, .slice A2 ps.length c2, .int .i64 b, .int .i64 t] 31)
    have I2 := I1.alloc (.cells #[.int .i64 o, .int .i64 l, .int .i64 m, .slice A2 ps.length c2, .int .i64 b, .int .i64 t] 31)
    have Kb2 := Blk.new w1 31 #[.int .i64 o, .int .i64 l, .int .i64 m, .slice A2 ps.length c2, .int .i64 b, .int .i64 t]
    clear B1 P1 I1
    have CD := fun (wx : World) (hp : PR wx wx.heap.size A2 ps) (hi : IR wx wx.heap.size A3 xs) => impl_CodesData o l m A2 c2 b t ps A3 c3 xs wx hp (by omega) hi (by omega)
    have SD := fun (wx : World) (hp : PR wx wx.heap.size A2 ps) (hi : IR wx wx.heap.size A3 xs) => spec_CodesData o l m A2 c2 b t ps A3 c3 xs wx hp (by omega) hi (by omega) hcp
    have CV := fun (wx : World) (hp : PR wx wx.heap.size A2 ps) (hi : IR wx wx.heap.size A3 xs) => impl_CodesValid o l m A2 c2 b t ps A3 c3 xs wx hp (by omega) hi (by omega)
    obtain ⟨D, hD⟩ : ∃ D, D = str (Sx.cwD o l m b t ps xs) := ⟨_, rfl⟩
    rw [← hD] at CD SD
    cases hB : Sx.cwB o l m b t ps xs
    · skip
      rw [hB] at CD SD CV
      have CD := hide CD
      have SD := hide SD
      have CV := hide CV
      clear hD hB
      have Kbc0 : (w1.alloc (.cells #[.int .i64 o, .int .i64 l, .int .i64 m, .slice A2 ps.length c2, .int .i64 b, .int .i64 t] 31)).cell? ⟨w1.heap.size, 0, none⟩ = some (.int .i64 o) := Kb2.cell 0
      have Kbc1 : (w1.alloc (.cells #[.int .i64 o, .int .i64 l, .int .i64 m, .slice A2 ps.length c2, .int .i64 b, .int .i64 t] 31)).cell? ⟨w1.heap.size, 1, none⟩ = some (.int .i64 l) := Kb2.cell 1
      have Kbc2 : (w1.alloc (.cells #[.int .i64 o, .int .i64 l, .int .i64 m, .slice A2 ps.length c2, .int .i64 b, .int .i64 t] 31)).cell? ⟨w1.heap.size, 2, none⟩ = some (.int .i64 m) := Kb2.cell 2
      have Kbc3 : (w1.alloc (.cells #[.int .i64 o, .int .i64 l, .int .i64 m, .slice A2 ps.length c2, .int .i64 b, .int .i64 t] 31)).cell? ⟨w1.heap.size, 3, none⟩ = some (.slice A2 ps.length c2) := Kb2.cell 3
      have Kbc4 : (w1.alloc (.cells #[.int .i64 o, .int .i64 l, .int .i64 m, .slice A2 ps.length c2, .int .i64 b, .int .i64 t] 31)).cell? ⟨w1.heap.size, 4, none⟩ = some (.int .i64 b) := Kb2.cell 4
      have Kbc5 : (w1.alloc (.cells #[.int .i64 o, .int .i64 l, .int .i64 m, .slice A2 ps.length c2, .int .i64 b, .int .i64 t] 31)).cell? ⟨w1.heap.size, 5, none⟩ = some (.int .i64 t) := Kb2.cell 5
      go_wp2_with fail
      refine ((unhide CD) _ (P2.pr (Nat.le_refl _)) (I2.ir (Nat.le_refl _))).mono ?_; rintro e w2 ⟨rfl, hb⟩
      have s3 : (w1.alloc (.cells #[.int .i64 o, .int .i64 l, .int .i64 m, .slice A2 ps.length c2, .int .i64 b, .int .i64 t] 31)).heap.size ≤ w2.heap.size := Below.size hb
      have B3 := below_next (Nat.le_refl _) B2 hb
      have Kb3 := Kb2.below hb Kb2.lt
      have P3 := P2.below hb
      have I3 := I2.below hb
      clear B2 Kb2 P2 I2 Kbc0 Kbc1 Kbc2 Kbc3 Kbc4 Kbc5 hb
      have Kbc0 : w2.cell? ⟨w1.heap.size, 0, none⟩ = some (.int .i64 o) := Kb3.cell 0
      have Kbc1 : w2.cell? ⟨w1.heap.size, 1, none⟩ = some (.int .i64 l) := Kb3.cell 1
      have Kbc2 : w2.cell? ⟨w1.heap.size, 2, none⟩ = some (.int .i64 m) := Kb3.cell 2
      have Kbc3 : w2.cell? ⟨w1.heap.size, 3, none⟩ = some (.slice A2 ps.length c2) := Kb3.cell 3
      have Kbc4 : w2.cell? ⟨w1.heap.size, 4, none⟩ = some (.int .i64 b) := Kb3.cell 4
      have Kbc5 : w2.cell? ⟨w1.heap.size, 5, none⟩ = some (.int .i64 t) := Kb3.cell 5
      go_wp2_with fail
      refine ((unhide SD) _ (P3.pr (Nat.le_refl _)) (I3.ir (Nat.le_refl _))).mono ?_; rintro e w3 ⟨rfl, hb⟩
      have s4 : w2.heap.size ≤ w3.heap.size := Below.size hb
      have B4 := below_next (Nat.le_refl _) B3 hb
      have Kb4 := Kb3.below hb Kb3.lt
      have P4 := P3.below hb
      have I4 := I3.below hb
      clear B3 Kb3 P3 I3 Kbc0 Kbc1 Kbc2 Kbc3 Kbc4 Kbc5 hb
      have Kbc0 : w3.cell? ⟨w1.heap.size, 0, none⟩ = some (.int .i64 o) := Kb4.cell 0
      have Kbc1 : w3.cell? ⟨w1.heap.size, 1, none⟩ = some (.int .i64 l) := Kb4.cell 1
      have Kbc2 : w3.cell? ⟨w1.heap.size, 2, none⟩ = some (.int .i64 m) := Kb4.cell 2
      have Kbc3 : w3.cell? ⟨w1.heap.size, 3, none⟩ = some (.slice A2 ps.length c2) := Kb4.cell 3
      have Kbc4 : w3.cell? ⟨w1.heap.size, 4, none⟩ = some (.int .i64 b) := Kb4.cell 4
      have Kbc5 : w3.cell? ⟨w1.heap.size, 5, none⟩ = some (.int .i64 t) := Kb4.cell 5
      go_wp2_with fail
      refine ((unhide CV) _ (P4.pr (Nat.le_refl _)) (I4.ir (Nat.le_refl _))).mono ?_; rintro e w4 ⟨rfl, hb⟩
      have s5 : w3.heap.size ≤ w4.heap.size := Below.size hb
      have B5 := below_next (Nat.le_refl _) B4 hb
      have Kb5 := Kb4.below hb Kb4.lt
      have P5 := P4.below hb
      have I5 := I4.below hb
      clear B4 Kb4 P4 I4 Kbc0 Kbc1 Kbc2 Kbc3 Kbc4 Kbc5 hb
      have Kbc0 : w4.cell? ⟨w1.heap.size, 0, none⟩ = some (.int .i64 o) := Kb5.cell 0
      have Kbc1 : w4.cell? ⟨w1.heap.size, 1, none⟩ = some (.int .i64 l) := Kb5.cell 1
      have Kbc2 : w4.cell? ⟨w1.heap.size, 2, none⟩ = some (.int .i64 m) := Kb5.cell 2
      have Kbc3 : w4.cell? ⟨w1.heap.size, 3, none⟩ = some (.slice A2 ps.length c2) := Kb5.cell 3
      have Kbc4 : w4.cell? ⟨w1.heap.size, 4, none⟩ = some (.int .i64 b) := Kb5.cell 4
      have Kbc5 : w4.cell? ⟨w1.heap.size, 5, none⟩ = some (.int .i64 t) := Kb5.cell 5
      go_wp2_with fail
      refine ((unhide CV) _ (P5.pr (Nat.le_refl _)) (I5.ir (Nat.le_refl _))).mono ?_; rintro e w5 ⟨rfl, hb⟩
      have s6 : w4.heap.size ≤ w5.heap.size := Below.size hb
      have B6 := below_next (Nat.le_refl _) B5 hb
      have Kb6 := Kb5.below hb Kb5.lt
      have P6 := P5.below hb
      have I6 := I5.below hb
      clear B5 Kb5 P5 I5 Kbc0 Kbc1 Kbc2 Kbc3 Kbc4 Kbc5 hb
      go_wp2_with fail
      go_ret
      exact ⟨rfl, B6⟩
    · skip
      obtain ⟨hk, hx31⟩ := Sx.cwB_ok hB
      obtain ⟨ws, ds, hR⟩ : ∃ ws ds, Sx.cwR o l m b t ps xs = some (ws, ds) := by
        rcases hR : Sx.cwR o l m b t ps xs with _ | ⟨ws, ds⟩
        · rw [(Sx.cw_none hR).1] at hB; cases hB
        · exact ⟨ws, ds, rfl⟩
      have hW := (Sx.cw_some hR).2.1
      rw [(Sx.cw_some hR).2.2] at hD
      rw [Sx.cwR_wk hk hx31] at hR
      have hok := (Sx.kOK_of hk).1
      have hR := hide hR
      have hk := hide hk
      rw [hB] at CD SD CV
      have CD := hide CD
      have SD := hide SD
      have CV := hide CV
      have HDD := hide hD
      have CW := hide (fun (wx : World) (hp : PR wx wx.heap.size A2 ps) (hi : IR wx wx.heap.size A3 xs) => by have := impl_CodesWidths o l m A2 c2 b t ps A3 c3 xs wx hp (by omega) hi (by omega); unfold WidthsPost at this; rwa [hB, hW] at this)
      have CE := hide (fun wx => by have := impl_EndCode o l m wx; rwa [Sx.end_yes hok] at this)
      clear hD hB hW hok
      have Kbc0 : (w1.alloc (.cells #[.int .i64 o, .int .i64 l, .int .i64 m, .slice A2 ps.length c2, .int .i64 b, .int .i64 t] 31)).cell? ⟨w1.heap.size, 0, none⟩ = some (.int .i64 o) := Kb2.cell 0
      have Kbc1 : (w1.alloc (.cells #[.int .i64 o, .int .i64 l, .int .i64 m, .slice A2 ps.length c2, .int .i64 b, .int .i64 t] 31)).cell? ⟨w1.heap.size, 1, none⟩ = some (.int .i64 l) := Kb2.cell 1
      have Kbc2 : (w1.alloc (.cells #[.int .i64 o, .int .i64 l, .int .i64 m, .slice A2 ps.length c2, .int .i64 b, .int .i64 t] 31)).cell? ⟨w1.heap.size, 2, none⟩ = some (.int .i64 m) := Kb2.cell 2
      have Kbc3 : (w1.alloc (.cells #[.int .i64 o, .int .i64 l, .int .i64 m, .slice A2 ps.length c2, .int .i64 b, .int .i64 t] 31)).cell? ⟨w1.heap.size, 3, none⟩ = some (.slice A2 ps.length c2) := Kb2.cell 3
      have Kbc4 : (w1.alloc (.cells #[.int .i64 o, .int .i64 l, .int .i64 m, .slice A2 ps.length c2, .int .i64 b, .int .i64 t] 31)).cell? ⟨w1.heap.size, 4, none⟩ = some (.int .i64 b) := Kb2.cell 4
      have Kbc5 : (w1.alloc (.cells #[.int .i64 o, .int .i64 l, .int .i64 m, .slice A2 ps.length c2, .int .i64 b, .int .i64 t] 31)).cell? ⟨w1.heap.size, 5, none⟩ = some (.int .i64 t) := Kb2.cell 5
      go_wp2_with fail
      refine ((unhide CD) _ (P2.pr (Nat.le_refl _)) (I2.ir (Nat.le_refl _))).mono ?_; rintro e w2 ⟨rfl, hb⟩
      have s3 : (w1.alloc (.cells #[.int .i64 o, .int .i64 l, .int .i64 m, .slice A2 ps.length c2, .int .i64 b, .int .i64 t] 31)).heap.size ≤ w2.heap.size := Below.size hb
      have B3 := below_next (Nat.le_refl _) B2 hb
      have Kb3 := Kb2.below hb Kb2.lt
      have P3 := P2.below hb
      have I3 := I2.below hb
      clear B2 Kb2 P2 I2 Kbc0 Kbc1 Kbc2 Kbc3 Kbc4 Kbc5 hb
      have Kbc0 : w2.cell? ⟨w1.heap.size, 0, none⟩ = some (.int .i64 o) := Kb3.cell 0
      have Kbc1 : w2.cell? ⟨w1.heap.size, 1, none⟩ = some (.int .i64 l) := Kb3.cell 1
      have Kbc2 : w2.cell? ⟨w1.heap.size, 2, none⟩ = some (.int .i64 m) := Kb3.cell 2
      have Kbc3 : w2.cell? ⟨w1.heap.size, 3, none⟩ = some (.slice A2 ps.length c2) := Kb3.cell 3
      have Kbc4 : w2.cell? ⟨w1.heap.size, 4, none⟩ = some (.int .i64 b) := Kb3.cell 4
      have Kbc5 : w2.cell? ⟨w1.heap.size, 5, none⟩ = some (.int .i64 t) := Kb3.cell 5
      go_wp2_with fail
      refine ((unhide SD) _ (P3.pr (Nat.le_refl _)) (I3.ir (Nat.le_refl _))).mono ?_; rintro e w3 ⟨rfl, hb⟩
      have s4 : w2.heap.size ≤ w3.heap.size := Below.size hb
      have B4 := below_next (Nat.le_refl _) B3 hb
      have Kb4 := Kb3.below hb Kb3.lt
      have P4 := P3.below hb
      have I4 := I3.below hb
      clear B3 Kb3 P3 I3 Kbc0 Kbc1 Kbc2 Kbc3 Kbc4 Kbc5 hb
      have Kbc0 : w3.cell? ⟨w1.heap.size, 0, none⟩ = some (.int .i64 o) := Kb4.cell 0
      have Kbc1 : w3.cell? ⟨w1.heap.size, 1, none⟩ = some (.int .i64 l) := Kb4.cell 1
      have Kbc2 : w3.cell? ⟨w1.heap.size, 2, none⟩ = some (.int .i64 m) := Kb4.cell 2
      have Kbc3 : w3.cell? ⟨w1.heap.size, 3, none⟩ = some (.slice A2 ps.length c2) := Kb4.cell 3
      have Kbc4 : w3.cell? ⟨w1.heap.size, 4, none⟩ = some (.int .i64 b) := Kb4.cell 4
      have Kbc5 : w3.cell? ⟨w1.heap.size, 5, none⟩ = some (.int .i64 t) := Kb4.cell 5
      go_wp2_with fail
      refine ((unhide CV) _ (P4.pr (Nat.le_refl _)) (I4.ir (Nat.le_refl _))).mono ?_; rintro e w4 ⟨rfl, hb⟩
      have s5 : w3.heap.size ≤ w4.heap.size := Below.size hb
      have B5 := below_next (Nat.le_refl _) B4 hb
      have Kb5 := Kb4.below hb Kb4.lt
      have P5 := P4.below hb
      have I5 := I4.below hb
      clear B4 Kb4 P4 I4 Kbc0 Kbc1 Kbc2 Kbc3 Kbc4 Kbc5 hb
      by_cases h60 : 60 < xs.length
      · skip
        have x60 : (60 : Int) < (xs.length : Int) := by omega
        have Kbc0 : w4.cell? ⟨w1.heap.size, 0, none⟩ = some (.int .i64 o) := Kb5.cell 0
        have Kbc1 : w4.cell? ⟨w1.heap.size, 1, none⟩ = some (.int .i64 l) := Kb5.cell 1
        have Kbc2 : w4.cell? ⟨w1.heap.size, 2, none⟩ = some (.int .i64 m) := Kb5.cell 2
        have Kbc3 : w4.cell? ⟨w1.heap.size, 3, none⟩ = some (.slice A2 ps.length c2) := Kb5.cell 3
        have Kbc4 : w4.cell? ⟨w1.heap.size, 4, none⟩ = some (.int .i64 b) := Kb5.cell 4
        have Kbc5 : w4.cell? ⟨w1.heap.size, 5, none⟩ = some (.int .i64 t) := Kb5.cell 5
        go_wp2_with fail
        refine ((unhide CV) _ (P5.pr (Nat.le_refl _)) (I5.ir (Nat.le_refl _))).mono ?_; rintro e w5 ⟨rfl, hb⟩
        have s6 : w4.heap.size ≤ w5.heap.size := Below.size hb
        have B6 := below_next (Nat.le_refl _) B5 hb
        have Kb6 := Kb5.below hb Kb5.lt
        have P6 := P5.below hb
        have I6 := I5.below hb
        clear B5 Kb5 P5 I5 Kbc0 Kbc1 Kbc2 Kbc3 Kbc4 Kbc5 hb
        go_wp2_with fail
        go_ret
        exact ⟨rfl, B6⟩
      · skip
        have x60 : ¬ (60 : Int) < (xs.length : Int) := by omega
        have Kbc0 : w4.cell? ⟨w1.heap.size, 0, none⟩ = some (.int .i64 o) := Kb5.cell 0
        have Kbc1 : w4.cell? ⟨w1.heap.size, 1, none⟩ = some (.int .i64 l) := Kb5.cell 1
        have Kbc2 : w4.cell? ⟨w1.heap.size, 2, none⟩ = some (.int .i64 m) := Kb5.cell 2
        have Kbc3 : w4.cell? ⟨w1.heap.size, 3, none⟩ = some (.slice A2 ps.length c2) := Kb5.cell 3
        have Kbc4 : w4.cell? ⟨w1.heap.size, 4, none⟩ = some (.int .i64 b) := Kb5.cell 4
        have Kbc5 : w4.cell? ⟨w1.heap.size, 5, none⟩ = some (.int .i64 t) := Kb5.cell 5
        go_wp2_with fail
        refine ((unhide CW) _ (P5.pr (Nat.le_refl _)) (I5.ir (Nat.le_refl _))).mono ?_; rintro e w5 ⟨A4, c4, rfl, O4, hb⟩
        have s6 : w4.heap.size ≤ w5.heap.size := Below.size hb
        have B6 := below_next (Nat.le_refl _) B5 hb
        have Kb6 := Kb5.below hb Kb5.lt
        have P6 := P5.below hb
        have I6 := I5.below hb
        clear B5 Kb5 P5 I5 Kbc0 Kbc1 Kbc2 Kbc3 Kbc4 Kbc5 hb
        have W6 := OwnV.ints O4
        clear O4
        have Kbc0 : w5.cell? ⟨w1.heap.size, 0, none⟩ = some (.int .i64 o) := Kb6.cell 0
        have Kbc1 : w5.cell? ⟨w1.heap.size, 1, none⟩ = some (.int .i64 l) := Kb6.cell 1
        have Kbc2 : w5.cell? ⟨w1.heap.size, 2, none⟩ = some (.int .i64 m) := Kb6.cell 2
        have Kbc3 : w5.cell? ⟨w1.heap.size, 3, none⟩ = some (.slice A2 ps.length c2) := Kb6.cell 3
        have Kbc4 : w5.cell? ⟨w1.heap.size, 4, none⟩ = some (.int .i64 b) := Kb6.cell 4
        have Kbc5 : w5.cell? ⟨w1.heap.size, 5, none⟩ = some (.int .i64 t) := Kb6.cell 5
        go_wp2_with fail
        clear Kbc0 Kbc1 Kbc2 Kbc3 Kbc4 Kbc5
        have hkx : w1.heap.size < w5.heap.size := Kb6.lt
        have s7 : (w5.alloc (.cells #[.int .i64 o, .int .i64 l, .int .i64 m, .slice A2 ps.length c2, .int .i64 b, .int .i64 t] 31)).heap.size = w5.heap.size + 1 := World.size_alloc _ _
        have B7 := B6.alloc B6.size (.cells #[.int .i64 o, .int .i64 l, .int .i64 m, .slice A2 ps.length c2, .int .i64 b, .int .i64 t] 31)
        have Kb7 := Kb6.alloc (.cells #[.int .i64 o, .int .i64 l, .int .i64 m, .slice A2 ps.length c2, .int .i64 b, .int .i64 t] 31)
        have P7 := P6.alloc (.cells #[.int .i64 o, .int .i64 l, .int .i64 m, .slice A2 ps.length c2, .int .i64 b, .int .i64 t] 31)
        have I7 := I6.alloc (.cells #[.int .i64 o, .int .i64 l, .int .i64 m, .slice A2 ps.length c2, .int .i64 b, .int .i64 t] 31)
        have W7 := W6.alloc (.cells #[.int .i64 o, .int .i64 l, .int .i64 m, .slice A2 ps.length c2, .int .i64 b, .int .i64 t] 31)
        have Xb7 := Blk.new w5 31 #[.int .i64 o, .int .i64 l, .int .i64 m, .slice A2 ps.length c2, .int .i64 b, .int .i64 t]
        clear B6 Kb6 P6 I6 W6
        obtain ⟨xq, hxq⟩ : ∃ x, x = w5.heap.size := ⟨_, rfl⟩
        obtain ⟨kq, hkq⟩ : ∃ x, x = w1.heap.size := ⟨_, rfl⟩
        have r0 : w.heap.size ≤ kq := by have := B7.size; omega
        have r1 : w1.heap.size ≤ xq := by omega
        have r2 : w5.heap.size ≤ xq := by omega
        have r3 : kq < xq := by omega
        have r4 : w.heap.size ≤ w4.heap.size := by omega
        rw [← hxq] at Xb7
        rw [← hkq] at Kb7
        obtain ⟨hp1, hh1⟩ : ∃ x, x = w1.heap.size := ⟨_, rfl⟩
        obtain ⟨lw, hlw⟩ : ∃ x, x = w4.heap.size := ⟨_, rfl⟩
        obtain ⟨hw1, hhw⟩ : ∃ x, x = w5.heap.size := ⟨_, rfl⟩
        skip
        have HP0 := hide (Sx.pre_zero (xs := xs) hk.out)
        have PX0 := (OwnV.toP P7)
        rw [← hh1] at P7 I7 r1
        rw [← hlw, ← hhw] at W7
        rw [← hhw] at r2
        rw [← hlw] at r4
        rw [← hxq, ← hkq]
        clear hh1 hlw hhw hkx hxq hkq
        go_loopw [12, 13] (fun s12 s13 wr => ∃ (i : Nat) (Q : List (Int × Int)) (T : Int) (wsi : List Int) (dsi : List UInt8) (A' : Option Addr) (c' : Nat), s12 = .string (str dsi) ∧ s13 = .int .i64 i ∧ i ≤ xs.length ∧ Hid (Sx.Pre o l m b t ps xs i Q T wsi dsi) ∧ Q.length ≤ ps.length + i ∧ Blk wr kq 31 #[.int .i64 o, .int .i64 l, .int .i64 m, .slice A2 ps.length c2, .int .i64 b, .int .i64 t] ∧ Blk wr xq 31 #[.int .i64 o, .int .i64 l, .int .i64 m, .slice A' Q.length c', .int .i64 b, .int .i64 T] ∧ OwnV wr w.heap.size hp1 63 A2 (pvals ps) ∧ OwnV wr w.heap.size hp1 3 A3 (ivals xs) ∧ OwnV wr lw hw1 3 A4 (ivals ws) ∧ OwnP wr w.heap.size A' Q ∧ Below w.heap.size w wr) (fun _ s13 _ => xs.length - (intOf s13).toNat)
        case atStart => exact ⟨0, ps, t, [], [], A2, c2, rfl, rfl, Nat.zero_le _, HP0, by omega, Kb7, Xb7, P7, I7, W7, PX0, B7⟩
        case round =>
          clear Kb7 Xb7 P7 I7 W7 PX0 B7 HP0
          obtain ⟨i, Q, T, wsi, dsi, A', c', rfl, rfl, hile, HP, hQ, Kb60, Xb60, P60, I60, W60, Px60, B60⟩ := hrel
          by_cases hlt : i < xs.length
          · skip
            have hltI : (i : Int) < (xs.length : Int) := by omega
            have hi0 : (0 : Int) ≤ (i : Int) := Int.natCast_nonneg _
            obtain ⟨hK, hd2, hV, u, hU, hul, hcase⟩ := Sx.pre_round HP.out hlt hR.out
            obtain ⟨hT1, hT2⟩ := Sx.pre_head HP.out hk.out hx31
            have hti : (xs.take i).length = i := by rw [List.length_take]; omega
            have CT := hide (fun (wx : World) (hp : PR wx wx.heap.size A2 ps) (hi : IR wx wx.heap.size A3 xs) => by have := impl_CodesData o l m A2 c2 b t ps A3 c3 (xs.take i) wx hp (by omega) (hi.take i) (by omega); rwa [hT1, hT2, hti] at this)
            obtain ⟨V, hVV⟩ : ∃ V, V = Sx.widthI l m Q.length T := ⟨_, rfl⟩
            rw [← hVV] at hV
            have CX := hide (fun (wx : World) (hp : PR wx wx.heap.size A' Q) => by have := impl_Width o l m A' c' b T Q wx hp (by omega); rwa [Sx.wide_yes hK, ← hVV] at this)
            have hxx : xs[i]? = some xs[i] := List.getElem?_eq_getElem hlt
            obtain ⟨x, hx⟩ : ∃ x, x = xs[i] := ⟨_, rfl⟩
            rw [← hx] at hU hcase hxx
            have CU := hide (fun (wx : World) (hp : PR wx wx.heap.size A' Q) => by have := laws_soWord o l m A' c' b T x Q wx hp (by omega); rwa [hU] at this)
            have hwl : ws.length = xs.length := (Sx.wk_length _ _ _ _ _ hR.out).1
            obtain ⟨ig, io, e3, _, _⟩ := (I60.ir (Nat.le_refl _)) (by omega)
            subst e3
            obtain ⟨wg, wo, e4, _, _⟩ := (W60.ir (Nat.le_refl _)) (by omega)
            subst e4
            have hic : i ≤ c3 := by omega
            have hiw : i < ws.length := by omega
            have hwlI : (i : Int) < (ws.length : Int) := by omega
            have hadd : str dsi ++ str u = str (dsi ++ u) := str_append dsi u
            obtain ⟨G, hG⟩ : ∃ G, G = str dsi := ⟨_, rfl⟩
            obtain ⟨U, hUU⟩ : ∃ U, U = str u := ⟨_, rfl⟩
            have hgs : G.size = dsi.length := by rw [hG, str_size]
            have hus : U.size = u.length := by rw [hUU, str_size]
            have hz0 : ¬ 9223372036854775807 < G.size + U.size := by omega
            have CTo := CT.out
            have CUo := CU.out
            rw [← hG] at CTo
            rw [← hUU] at CUo
            rw [← hG, ← hUU] at hadd
            have CT := hide CTo
            have CU := hide CUo
            rw [← hG]
            have HAD := hide hadd
            have HC := hide hcase
            have HX := hide hxx
            have HV := hide hV
            have HK := hide hK
            clear CTo CUo hG hUU hgs hus hadd hcase hxx hV hK hx hVV hU hT1 hT2 hti hwl
            have Xbc0 : wr.cell? ⟨xq, 0, none⟩ = some (.int .i64 o) := Xb60.cell 0
            have Xbc1 : wr.cell? ⟨xq, 1, none⟩ = some (.int .i64 l) := Xb60.cell 1
            have Xbc2 : wr.cell? ⟨xq, 2, none⟩ = some (.int .i64 m) := Xb60.cell 2
            have Xbc3 : wr.cell? ⟨xq, 3, none⟩ = some (.slice A' Q.length c') := Xb60.cell 3
            have Xbc4 : wr.cell? ⟨xq, 4, none⟩ = some (.int .i64 b) := Xb60.cell 4
            have Xbc5 : wr.cell? ⟨xq, 5, none⟩ = some (.int .i64 T) := Xb60.cell 5
            have xt0 : wr.cell? ⟨wg, wo + i, none⟩ = some (.int .i64 V) := (W60.ir (Nat.le_refl _)).cell hiw HV.out
            go_wp2_with fail
            have s0 : Below wr.heap.size wr wr.drew ∧ wr.drew.cell? ⟨xq, 0, none⟩ = some (.int .i64 o) ∧ wr.drew.cell? ⟨xq, 1, none⟩ = some (.int .i64 l) ∧ wr.drew.cell? ⟨xq, 2, none⟩ = some (.int .i64 m) ∧ wr.drew.cell? ⟨xq, 3, none⟩ = some (.slice A' Q.length c') ∧ wr.drew.cell? ⟨xq, 4, none⟩ = some (.int .i64 b) ∧ wr.drew.cell? ⟨xq, 5, none⟩ = some (.int .i64 T) ∧ wr.drew.cell? ⟨wg, wo + i, none⟩ = some (.int .i64 V) := ⟨(Below.refl _ _).drew, Xb60.cell 0, Xb60.cell 1, Xb60.cell 2, Xb60.cell 3, Xb60.cell 4, Xb60.cell 5, (W60.ir (Nat.le_refl _)).cell hiw HV.out⟩
            clear Xbc0 Xbc1 Xbc2 Xbc3 Xbc4 Xbc5 xt0
            refine wp_region_held_drew (S := (fun W => Below wr.heap.size wr W ∧ W.cell? ⟨xq, 0, none⟩ = some (.int .i64 o) ∧ W.cell? ⟨xq, 1, none⟩ = some (.int .i64 l) ∧ W.cell? ⟨xq, 2, none⟩ = some (.int .i64 m) ∧ W.cell? ⟨xq, 3, none⟩ = some (.slice A' Q.length c') ∧ W.cell? ⟨xq, 4, none⟩ = some (.int .i64 b) ∧ W.cell? ⟨xq, 5, none⟩ = some (.int .i64 T) ∧ W.cell? ⟨wg, wo + i, none⟩ = some (.int .i64 V))) (by kernel_rfl) (by first | assumption | exact s0 | exact keep7 (by assumption) (by assumption)) (fun hHeld => ?_)
            refine wpAnyH_take (i := 0) (oi := { dst := some 88, op := Op.move (Operand.tmp 9), type := 38, pos := "laws.go:479", after := #[], guard := none }) (v := ?_) rfl (by kernel_rfl) (by kernel_rfl) (by kernel_rfl) (fun _ _ _ h => h) (Or.inl ⟨by rfl, ?_⟩) (by assumption) ?_; rotate_left
            · intro W hW; (try dsimp only at hW); go_simp;  try (with_reducible rfl)
            try simp only [Act.put, List.setIfInBounds_toArray, List.set_cons_zero, List.set_cons_succ]
            refine wpAnyH_take (i := 1) (oi := { dst := some 89, op := Op.move (Operand.tmp 13), type := 3, pos := "laws.go:479", after := #[], guard := none }) (v := ?_) rfl (by kernel_rfl) (by kernel_rfl) (by kernel_rfl) (fun _ _ _ h => h) (Or.inl ⟨by rfl, ?_⟩) (by assumption) ?_; rotate_left
            · intro W hW; (try dsimp only at hW); go_simp;  try (with_reducible rfl)
            try simp only [Act.put, List.setIfInBounds_toArray, List.set_cons_zero, List.set_cons_succ]
            refine wpAnyH_take (i := 2) (oi := { dst := some 90, op := Op.indexAddr 38 (Operand.tmp 88) (Operand.tmp 89), type := 0, pos := "laws.go:479", after := #[{ on := 0, ground := Ground.data }, { on := 1, ground := Ground.data }], guard := none }) (v := ?_) rfl (by kernel_rfl) (by kernel_rfl) (by kernel_rfl) (fun _ _ _ h => h) (Or.inl ⟨by rfl, ?_⟩) (by assumption) ?_; rotate_left
            · intro W hW; (try dsimp only at hW); go_simp;  try (with_reducible rfl)
            try simp only [Act.put, List.setIfInBounds_toArray, List.set_cons_zero, List.set_cons_succ]
            refine wpAnyH_take (i := 3) (oi := { dst := some 91, op := Op.load 3 (Operand.tmp 90), type := 3, pos := "laws.go:479", after := #[{ on := 2, ground := Ground.data }], guard := none }) (v := ?_) rfl (by kernel_rfl) (by kernel_rfl) (by kernel_rfl) (fun _ _ _ h => h) (Or.inl ⟨by rfl, ?_⟩) (by assumption) ?_; rotate_left
            · intro W hW; (try dsimp only at hW); go_simp;  try (with_reducible rfl)
            try simp only [Act.put, List.setIfInBounds_toArray, List.set_cons_zero, List.set_cons_succ]
            refine wpAnyH_take (i := 4) (oi := { dst := some 92, op := Op.load 31 (Operand.tmp 11), type := 31, pos := "laws.go:479", after := #[], guard := none }) (v := ?_) rfl (by kernel_rfl) (by kernel_rfl) (by kernel_rfl) (fun _ _ _ h => h) (Or.inl ⟨by rfl, ?_⟩) (by assumption) ?_; rotate_left
            · intro W hW; (try dsimp only at hW); go_simp;  try (with_reducible rfl)
            try simp only [Act.put, List.setIfInBounds_toArray, List.set_cons_zero, List.set_cons_succ]
            refine wpAnyH_ready (rs := [5]) (by kernel_rfl) (by simp) (AllReadyH.cons (i := 5) (o := { dst := some 93, op := Op.call { callee := Callee.value (Operand.func 32), args := #[Operand.tmp 92], argTypes := #[31] }, type := 3, pos := "laws.go:479", after := #[{ on := 4, ground := Ground.data }], guard := none }) rfl (fun K hK => ?_) AllReadyH.nil)
            go_simp
            refine ((unhide CX) _ ((Px60.below hHeld.1).pr (Nat.le_refl _))).mono ?_; rintro e y1 ⟨rfl, hb⟩
            try go_wp2_with fail
            refine hK.out _ _ (by (try dsimp only); first | assumption | exact s0 | exact keep7 (by assumption) (by assumption)) (fun hHeld => ?_)
            clear hK K
            try simp only [Act.put, List.setIfInBounds_toArray, List.set_cons_zero, List.set_cons_succ]
            refine wpAnyH_take (i := 6) (oi := { dst := some 94, op := Op.binOp BinOp.neq 3 (Operand.tmp 91) (Operand.tmp 93) 3, type := 4, pos := "laws.go:479", after := #[{ on := 3, ground := Ground.data }, { on := 5, ground := Ground.data }], guard := none }) (v := ?_) rfl (by kernel_rfl) (by kernel_rfl) (by kernel_rfl) (fun _ _ _ h => h) (Or.inl ⟨by rfl, ?_⟩) (by assumption) ?_; rotate_left
            · intro W hW; (try dsimp only at hW); go_simp;  try (with_reducible rfl)
            try simp only [Act.put, List.setIfInBounds_toArray, List.set_cons_zero, List.set_cons_succ]
            refine wpAnyH_done (by kernel_rfl) ?_ _
            have hE := hHeld.1
            clear hHeld s0
            have s61 : wr.heap.size ≤ y1.heap.size := Below.size hE
            have B61 := below_next (Nat.le_refl _) B60 hE
            have Kb61 := Kb60.below hE Kb60.lt
            have Xb61 := Xb60.below hE Xb60.lt
            have P61 := P60.below hE
            have I61 := I60.below hE
            have W61 := W60.below hE
            have Px61 := Px60.below hE
            clear B60 Kb60 Xb60 P60 I60 W60 Px60 hE
            have Kbc0 : y1.cell? ⟨kq, 0, none⟩ = some (.int .i64 o) := Kb61.cell 0
            have Kbc1 : y1.cell? ⟨kq, 1, none⟩ = some (.int .i64 l) := Kb61.cell 1
            have Kbc2 : y1.cell? ⟨kq, 2, none⟩ = some (.int .i64 m) := Kb61.cell 2
            have Kbc3 : y1.cell? ⟨kq, 3, none⟩ = some (.slice A2 ps.length c2) := Kb61.cell 3
            have Kbc4 : y1.cell? ⟨kq, 4, none⟩ = some (.int .i64 b) := Kb61.cell 4
            have Kbc5 : y1.cell? ⟨kq, 5, none⟩ = some (.int .i64 t) := Kb61.cell 5
            go_wp2_with fail
            have s0 : Below y1.heap.size y1 y1.drew ∧ y1.drew.cell? ⟨kq, 0, none⟩ = some (.int .i64 o) ∧ y1.drew.cell? ⟨kq, 1, none⟩ = some (.int .i64 l) ∧ y1.drew.cell? ⟨kq, 2, none⟩ = some (.int .i64 m) ∧ y1.drew.cell? ⟨kq, 3, none⟩ = some (.slice A2 ps.length c2) ∧ y1.drew.cell? ⟨kq, 4, none⟩ = some (.int .i64 b) ∧ y1.drew.cell? ⟨kq, 5, none⟩ = some (.int .i64 t) := ⟨(Below.refl _ _).drew, Kb61.cell 0, Kb61.cell 1, Kb61.cell 2, Kb61.cell 3, Kb61.cell 4, Kb61.cell 5⟩
            clear Kbc0 Kbc1 Kbc2 Kbc3 Kbc4 Kbc5
            refine wp_region_held_drew (S := (fun W => Below y1.heap.size y1 W ∧ W.cell? ⟨kq, 0, none⟩ = some (.int .i64 o) ∧ W.cell? ⟨kq, 1, none⟩ = some (.int .i64 l) ∧ W.cell? ⟨kq, 2, none⟩ = some (.int .i64 m) ∧ W.cell? ⟨kq, 3, none⟩ = some (.slice A2 ps.length c2) ∧ W.cell? ⟨kq, 4, none⟩ = some (.int .i64 b) ∧ W.cell? ⟨kq, 5, none⟩ = some (.int .i64 t))) (by kernel_rfl) (by first | assumption | exact s0 | exact keep6 (by assumption) (by assumption)) (fun hHeld => ?_)
            refine wpAnyH_take (i := 0) (oi := { dst := some 96, op := Op.load 31 (Operand.tmp 3), type := 31, pos := "laws.go:482", after := #[], guard := none }) (v := ?_) rfl (by kernel_rfl) (by kernel_rfl) (by kernel_rfl) (fun _ _ _ h => h) (Or.inl ⟨by rfl, ?_⟩) (by assumption) ?_; rotate_left
            · intro W hW; (try dsimp only at hW); go_simp;  try (with_reducible rfl)
            try simp only [Act.put, List.setIfInBounds_toArray, List.set_cons_zero, List.set_cons_succ]
            refine wpAnyH_take (i := 1) (oi := { dst := some 97, op := Op.move (Operand.tmp 4), type := 38, pos := "laws.go:482", after := #[], guard := none }) (v := ?_) rfl (by kernel_rfl) (by kernel_rfl) (by kernel_rfl) (fun _ _ _ h => h) (Or.inl ⟨by rfl, ?_⟩) (by assumption) ?_; rotate_left
            · intro W hW; (try dsimp only at hW); go_simp;  try (with_reducible rfl)
            try simp only [Act.put, List.setIfInBounds_toArray, List.set_cons_zero, List.set_cons_succ]
            refine wpAnyH_take (i := 2) (oi := { dst := some 98, op := Op.move (Operand.tmp 13), type := 3, pos := "laws.go:482", after := #[], guard := none }) (v := ?_) rfl (by kernel_rfl) (by kernel_rfl) (by kernel_rfl) (fun _ _ _ h => h) (Or.inl ⟨by rfl, ?_⟩) (by assumption) ?_; rotate_left
            · intro W hW; (try dsimp only at hW); go_simp;  try (with_reducible rfl)
            try simp only [Act.put, List.setIfInBounds_toArray, List.set_cons_zero, List.set_cons_succ]
            refine wpAnyH_take (i := 3) (oi := { dst := some 99, op := Op.slice 38 (Operand.tmp 97) none (some (Operand.tmp 98)) none, type := 38, pos := "laws.go:482", after := #[{ on := 1, ground := Ground.data }, { on := 2, ground := Ground.data }], guard := none }) (v := ?_) rfl (by kernel_rfl) (by kernel_rfl) (by kernel_rfl) (fun _ _ _ h => h) (Or.inl ⟨by rfl, ?_⟩) (by assumption) ?_; rotate_left
            · intro W hW; (try dsimp only at hW); go_simp;  try (with_reducible rfl)
            try simp only [Act.put, List.setIfInBounds_toArray, List.set_cons_zero, List.set_cons_succ]
            refine wpAnyH_ready (rs := [4]) (by kernel_rfl) (by simp) (AllReadyH.cons (i := 4) (o := { dst := some 100, op := Op.call { callee := Callee.value (Operand.func 26), args := #[Operand.tmp 96, Operand.tmp 99], argTypes := #[31, 38] }, type := 43, pos := "laws.go:482", after := #[{ on := 0, ground := Ground.data }, { on := 3, ground := Ground.data }], guard := none }) rfl (fun K hK => ?_) AllReadyH.nil)
            go_simp
            refine ((unhide CT) _ ((P61.below hHeld.1).pr (Nat.le_refl _)) ((I61.below hHeld.1).ir (Nat.le_refl _))).mono ?_; rintro e y2 ⟨rfl, hb⟩
            try go_wp2_with fail
            refine hK.out _ _ (by (try dsimp only); first | assumption | exact s0 | exact keep6 (by assumption) (by assumption)) (fun hHeld => ?_)
            clear hK K
            try simp only [Act.put, List.setIfInBounds_toArray, List.set_cons_zero, List.set_cons_succ]
            refine wpAnyH_take (i := 5) (oi := { dst := some 95, op := Op.move (Operand.tmp 100), type := 43, pos := "laws.go:482", after := #[{ on := 4, ground := Ground.data }], guard := none }) (v := ?_) rfl (by kernel_rfl) (by kernel_rfl) (by kernel_rfl) (fun _ _ _ h => h) (Or.inl ⟨by rfl, ?_⟩) (by assumption) ?_; rotate_left
            · intro W hW; (try dsimp only at hW); go_simp;  try (with_reducible rfl)
            try simp only [Act.put, List.setIfInBounds_toArray, List.set_cons_zero, List.set_cons_succ]
            refine wpAnyH_take (i := 6) (oi := { dst := some 101, op := Op.extract (Operand.tmp 95) 0, type := 9, pos := "laws.go:482", after := #[{ on := 5, ground := Ground.data }], guard := none }) (v := ?_) rfl (by kernel_rfl) (by kernel_rfl) (by kernel_rfl) (fun _ _ _ h => h) (Or.inl ⟨by rfl, ?_⟩) (by assumption) ?_; rotate_left
            · intro W hW; (try dsimp only at hW); go_simp;  try (with_reducible rfl)
            try simp only [Act.put, List.setIfInBounds_toArray, List.set_cons_zero, List.set_cons_succ]
            refine wpAnyH_take (i := 7) (oi := { dst := some 102, op := Op.extract (Operand.tmp 95) 1, type := 4, pos := "laws.go:482", after := #[{ on := 5, ground := Ground.data }, { on := 8, ground := Ground.gcOnly Departure.lateStores }], guard := none }) (v := ?_) rfl (by kernel_rfl) (by kernel_rfl) (by kernel_rfl) (fun _ _ _ h => h) (Or.inl ⟨by rfl, ?_⟩) (by assumption) ?_; rotate_left
            · intro W hW; (try dsimp only at hW); go_simp;  try (with_reducible rfl)
            try simp only [Act.put, List.setIfInBounds_toArray, List.set_cons_zero, List.set_cons_succ]
            refine wpAnyH_take (i := 8) (oi := { dst := some 14, op := Op.assign (Operand.tmp 101), type := 9, pos := "laws.go:482", after := #[{ on := 6, ground := Ground.data }, { on := 4, ground := Ground.chain }, { on := 0, ground := Ground.phase }, { on := 1, ground := Ground.phase }, { on := 2, ground := Ground.phase }, { on := 3, ground := Ground.phase }, { on := 4, ground := Ground.phase }, { on := 5, ground := Ground.phase }, { on := 6, ground := Ground.phase }, { on := 7, ground := Ground.textOnly Departure.lateStores }], guard := none }) (v := ?_) rfl (by kernel_rfl) (by kernel_rfl) (by kernel_rfl) (fun _ _ _ h => h) (Or.inl ⟨by rfl, ?_⟩) (by assumption) ?_; rotate_left
            · intro W hW; (try dsimp only at hW); go_simp;  try (with_reducible rfl)
            try simp only [Act.put, List.setIfInBounds_toArray, List.set_cons_zero, List.set_cons_succ]
            refine wpAnyH_take (i := 9) (oi := { dst := some 15, op := Op.assign (Operand.tmp 102), type := 4, pos := "laws.go:482", after := #[{ on := 7, ground := Ground.data }, { on := 8, ground := Ground.chain }, { on := 0, ground := Ground.phase }, { on := 1, ground := Ground.phase }, { on := 2, ground := Ground.phase }, { on := 3, ground := Ground.phase }, { on := 4, ground := Ground.phase }, { on := 5, ground := Ground.phase }, { on := 6, ground := Ground.phase }, { on := 7, ground := Ground.phase }, { on := 8, ground := Ground.phase }], guard := none }) (v := ?_) rfl (by kernel_rfl) (by kernel_rfl) (by kernel_rfl) (fun _ _ _ h => h) (Or.inl ⟨by rfl, ?_⟩) (by assumption) ?_; rotate_left
            · intro W hW; (try dsimp only at hW); go_simp;  try (with_reducible rfl)
            try simp only [Act.put, List.setIfInBounds_toArray, List.set_cons_zero, List.set_cons_succ]
            refine wpAnyH_done (by kernel_rfl) ?_ _
            have hE := hHeld.1
            clear hHeld s0
            have s62 : y1.heap.size ≤ y2.heap.size := Below.size hE
            have B62 := below_next (Nat.le_refl _) B61 hE
            have Kb62 := Kb61.below hE Kb61.lt
            have Xb62 := Xb61.below hE Xb61.lt
            have P62 := P61.below hE
            have I62 := I61.below hE
            have W62 := W61.below hE
            have Px62 := Px61.below hE
            clear B61 Kb61 Xb61 P61 I61 W61 Px61 hE
            have Xbc0 : y2.cell? ⟨xq, 0, none⟩ = some (.int .i64 o) := Xb62.cell 0
            have Xbc1 : y2.cell? ⟨xq, 1, none⟩ = some (.int .i64 l) := Xb62.cell 1
            have Xbc2 : y2.cell? ⟨xq, 2, none⟩ = some (.int .i64 m) := Xb62.cell 2
            have Xbc3 : y2.cell? ⟨xq, 3, none⟩ = some (.slice A' Q.length c') := Xb62.cell 3
            have Xbc4 : y2.cell? ⟨xq, 4, none⟩ = some (.int .i64 b) := Xb62.cell 4
            have Xbc5 : y2.cell? ⟨xq, 5, none⟩ = some (.int .i64 T) := Xb62.cell 5
            have xt0 : y2.cell? ⟨ig, io + i, none⟩ = some (.int .i64 x) := (I62.ir (Nat.le_refl _)).cell hlt HX.out
            go_wp2_with fail
            have s0 : Below y2.heap.size y2 y2.drew ∧ y2.drew.cell? ⟨xq, 0, none⟩ = some (.int .i64 o) ∧ y2.drew.cell? ⟨xq, 1, none⟩ = some (.int .i64 l) ∧ y2.drew.cell? ⟨xq, 2, none⟩ = some (.int .i64 m) ∧ y2.drew.cell? ⟨xq, 3, none⟩ = some (.slice A' Q.length c') ∧ y2.drew.cell? ⟨xq, 4, none⟩ = some (.int .i64 b) ∧ y2.drew.cell? ⟨xq, 5, none⟩ = some (.int .i64 T) ∧ y2.drew.cell? ⟨ig, io + i, none⟩ = some (.int .i64 x) := ⟨(Below.refl _ _).drew, Xb62.cell 0, Xb62.cell 1, Xb62.cell 2, Xb62.cell 3, Xb62.cell 4, Xb62.cell 5, (I62.ir (Nat.le_refl _)).cell hlt HX.out⟩
            clear Xbc0 Xbc1 Xbc2 Xbc3 Xbc4 Xbc5 xt0
            refine wp_region_held_drew (S := (fun W => Below y2.heap.size y2 W ∧ W.cell? ⟨xq, 0, none⟩ = some (.int .i64 o) ∧ W.cell? ⟨xq, 1, none⟩ = some (.int .i64 l) ∧ W.cell? ⟨xq, 2, none⟩ = some (.int .i64 m) ∧ W.cell? ⟨xq, 3, none⟩ = some (.slice A' Q.length c') ∧ W.cell? ⟨xq, 4, none⟩ = some (.int .i64 b) ∧ W.cell? ⟨xq, 5, none⟩ = some (.int .i64 T) ∧ W.cell? ⟨ig, io + i, none⟩ = some (.int .i64 x))) (by kernel_rfl) (by first | assumption | exact s0 | exact keep7 (by assumption) (by assumption)) (fun hHeld => ?_)
            refine wpAnyH_take (i := 0) (oi := { dst := some 110, op := Op.move (Operand.tmp 12), type := 9, pos := "laws.go:486", after := #[], guard := none }) (v := ?_) rfl (by kernel_rfl) (by kernel_rfl) (by kernel_rfl) (fun _ _ _ h => h) (Or.inl ⟨by rfl, ?_⟩) (by assumption) ?_; rotate_left
            · intro W hW; (try dsimp only at hW); go_simp;  try (with_reducible rfl)
            try simp only [Act.put, List.setIfInBounds_toArray, List.set_cons_zero, List.set_cons_succ]
            refine wpAnyH_take (i := 1) (oi := { dst := some 111, op := Op.load 31 (Operand.tmp 11), type := 31, pos := "laws.go:486", after := #[], guard := none }) (v := ?_) rfl (by kernel_rfl) (by kernel_rfl) (by kernel_rfl) (fun _ _ _ h => h) (Or.inl ⟨by rfl, ?_⟩) (by assumption) ?_; rotate_left
            · intro W hW; (try dsimp only at hW); go_simp;  try (with_reducible rfl)
            try simp only [Act.put, List.setIfInBounds_toArray, List.set_cons_zero, List.set_cons_succ]
            refine wpAnyH_take (i := 2) (oi := { dst := some 112, op := Op.move (Operand.tmp 4), type := 38, pos := "laws.go:486", after := #[], guard := none }) (v := ?_) rfl (by kernel_rfl) (by kernel_rfl) (by kernel_rfl) (fun _ _ _ h => h) (Or.inl ⟨by rfl, ?_⟩) (by assumption) ?_; rotate_left
            · intro W hW; (try dsimp only at hW); go_simp;  try (with_reducible rfl)
            try simp only [Act.put, List.setIfInBounds_toArray, List.set_cons_zero, List.set_cons_succ]
            refine wpAnyH_take (i := 3) (oi := { dst := some 113, op := Op.move (Operand.tmp 13), type := 3, pos := "laws.go:486", after := #[], guard := none }) (v := ?_) rfl (by kernel_rfl) (by kernel_rfl) (by kernel_rfl) (fun _ _ _ h => h) (Or.inl ⟨by rfl, ?_⟩) (by assumption) ?_; rotate_left
            · intro W hW; (try dsimp only at hW); go_simp;  try (with_reducible rfl)
            try simp only [Act.put, List.setIfInBounds_toArray, List.set_cons_zero, List.set_cons_succ]
            refine wpAnyH_take (i := 4) (oi := { dst := some 114, op := Op.indexAddr 38 (Operand.tmp 112) (Operand.tmp 113), type := 0, pos := "laws.go:486", after := #[{ on := 2, ground := Ground.data }, { on := 3, ground := Ground.data }], guard := none }) (v := ?_) rfl (by kernel_rfl) (by kernel_rfl) (by kernel_rfl) (fun _ _ _ h => h) (Or.inl ⟨by rfl, ?_⟩) (by assumption) ?_; rotate_left
            · intro W hW; (try dsimp only at hW); go_simp;  try (with_reducible rfl)
            try simp only [Act.put, List.setIfInBounds_toArray, List.set_cons_zero, List.set_cons_succ]
            refine wpAnyH_take (i := 5) (oi := { dst := some 115, op := Op.load 3 (Operand.tmp 114), type := 3, pos := "laws.go:486", after := #[{ on := 4, ground := Ground.data }], guard := none }) (v := ?_) rfl (by kernel_rfl) (by kernel_rfl) (by kernel_rfl) (fun _ _ _ h => h) (Or.inl ⟨by rfl, ?_⟩) (by assumption) ?_; rotate_left
            · intro W hW; (try dsimp only at hW); go_simp;  try (with_reducible rfl)
            try simp only [Act.put, List.setIfInBounds_toArray, List.set_cons_zero, List.set_cons_succ]
            refine wpAnyH_ready (rs := [6]) (by kernel_rfl) (by simp) (AllReadyH.cons (i := 6) (o := { dst := some 116, op := Op.call { callee := Callee.value (Operand.func 33), args := #[Operand.tmp 111, Operand.tmp 115], argTypes := #[31, 3] }, type := 9, pos := "laws.go:486", after := #[{ on := 1, ground := Ground.data }, { on := 5, ground := Ground.data }], guard := none }) rfl (fun K hK => ?_) AllReadyH.nil)
            go_simp
            refine ((unhide CU) _ ((Px62.below hHeld.1).pr (Nat.le_refl _))).mono ?_; rintro e y3 ⟨rfl, hb⟩
            try go_wp2_with fail
            refine hK.out _ _ (by (try dsimp only); first | assumption | exact s0 | exact keep7 (by assumption) (by assumption)) (fun hHeld => ?_)
            clear hK K
            try simp only [Act.put, List.setIfInBounds_toArray, List.set_cons_zero, List.set_cons_succ]
            refine wpAnyH_take (i := 7) (oi := { dst := some 117, op := Op.binOp BinOp.add 9 (Operand.tmp 110) (Operand.tmp 116) 9, type := 9, pos := "laws.go:486", after := #[{ on := 0, ground := Ground.data }, { on := 6, ground := Ground.data }], guard := none }) (v := ?_) rfl (by kernel_rfl) (by kernel_rfl) (by kernel_rfl) (fun _ _ _ h => h) (Or.inl ⟨by rfl, ?_⟩) (by assumption) ?_; rotate_left
            · intro W hW; (try dsimp only at hW); go_simp;  try (with_reducible rfl)
            try simp only [Act.put, List.setIfInBounds_toArray, List.set_cons_zero, List.set_cons_succ]
            refine wpAnyH_take (i := 8) (oi := { dst := some 12, op := Op.assign (Operand.tmp 117), type := 9, pos := "laws.go:486", after := #[{ on := 7, ground := Ground.data }, { on := 6, ground := Ground.chain }, { on := 0, ground := Ground.phase }, { on := 1, ground := Ground.phase }, { on := 2, ground := Ground.phase }, { on := 3, ground := Ground.phase }, { on := 4, ground := Ground.phase }, { on := 5, ground := Ground.phase }, { on := 6, ground := Ground.phase }, { on := 7, ground := Ground.phase }], guard := none }) (v := ?_) rfl (by kernel_rfl) (by kernel_rfl) (by kernel_rfl) (fun _ _ _ h => h) (Or.inl ⟨by rfl, ?_⟩) (by assumption) ?_; rotate_left
            · intro W hW; (try dsimp only at hW); go_simp;  try (with_reducible rfl)
            try simp only [Act.put, List.setIfInBounds_toArray, List.set_cons_zero, List.set_cons_succ]
            refine wpAnyH_done (by kernel_rfl) ?_ _
            have hE := hHeld.1
            clear hHeld s0
            have s63 : y2.heap.size ≤ y3.heap.size := Below.size hE
            have B63 := below_next (Nat.le_refl _) B62 hE
            have Kb63 := Kb62.below hE Kb62.lt
            have Xb63 := Xb62.below hE Xb62.lt
            have P63 := P62.below hE
            have I63 := I62.below hE
            have W63 := W62.below hE
            have Px63 := Px62.below hE
            clear B62 Kb62 Xb62 P62 I62 W62 Px62 hE
            have Kbc0 : y3.cell? ⟨kq, 0, none⟩ = some (.int .i64 o) := Kb63.cell 0
            have Kbc1 : y3.cell? ⟨kq, 1, none⟩ = some (.int .i64 l) := Kb63.cell 1
            have Kbc2 : y3.cell? ⟨kq, 2, none⟩ = some (.int .i64 m) := Kb63.cell 2
            have Kbc3 : y3.cell? ⟨kq, 3, none⟩ = some (.slice A2 ps.length c2) := Kb63.cell 3
            have Kbc4 : y3.cell? ⟨kq, 4, none⟩ = some (.int .i64 b) := Kb63.cell 4
            have Kbc5 : y3.cell? ⟨kq, 5, none⟩ = some (.int .i64 t) := Kb63.cell 5
            have xt0 : y3.cell? ⟨ig, io + i, none⟩ = some (.int .i64 x) := (I63.ir (Nat.le_refl _)).cell hlt HX.out
            go_wp2_with fail
            have s0 : Below y3.heap.size y3 y3.drew ∧ y3.drew.cell? ⟨kq, 0, none⟩ = some (.int .i64 o) ∧ y3.drew.cell? ⟨kq, 1, none⟩ = some (.int .i64 l) ∧ y3.drew.cell? ⟨kq, 2, none⟩ = some (.int .i64 m) ∧ y3.drew.cell? ⟨kq, 3, none⟩ = some (.slice A2 ps.length c2) ∧ y3.drew.cell? ⟨kq, 4, none⟩ = some (.int .i64 b) ∧ y3.drew.cell? ⟨kq, 5, none⟩ = some (.int .i64 t) ∧ y3.drew.cell? ⟨ig, io + i, none⟩ = some (.int .i64 x) := ⟨(Below.refl _ _).drew, Kb63.cell 0, Kb63.cell 1, Kb63.cell 2, Kb63.cell 3, Kb63.cell 4, Kb63.cell 5, (I63.ir (Nat.le_refl _)).cell hlt HX.out⟩
            clear Kbc0 Kbc1 Kbc2 Kbc3 Kbc4 Kbc5 xt0
            refine wp_region_held_drew (S := (fun W => Below y3.heap.size y3 W ∧ W.cell? ⟨kq, 0, none⟩ = some (.int .i64 o) ∧ W.cell? ⟨kq, 1, none⟩ = some (.int .i64 l) ∧ W.cell? ⟨kq, 2, none⟩ = some (.int .i64 m) ∧ W.cell? ⟨kq, 3, none⟩ = some (.slice A2 ps.length c2) ∧ W.cell? ⟨kq, 4, none⟩ = some (.int .i64 b) ∧ W.cell? ⟨kq, 5, none⟩ = some (.int .i64 t) ∧ W.cell? ⟨ig, io + i, none⟩ = some (.int .i64 x))) (by kernel_rfl) (by first | assumption | exact s0 | exact keep7 (by assumption) (by assumption)) (fun hHeld => ?_)
            refine wpAnyH_take (i := 0) (oi := { dst := some 118, op := Op.move (Operand.tmp 4), type := 38, pos := "laws.go:487", after := #[], guard := none }) (v := ?_) rfl (by kernel_rfl) (by kernel_rfl) (by kernel_rfl) (fun _ _ _ h => h) (Or.inl ⟨by rfl, ?_⟩) (by assumption) ?_; rotate_left
            · intro W hW; (try dsimp only at hW); go_simp;  try (with_reducible rfl)
            try simp only [Act.put, List.setIfInBounds_toArray, List.set_cons_zero, List.set_cons_succ]
            refine wpAnyH_take (i := 1) (oi := { dst := some 119, op := Op.move (Operand.tmp 13), type := 3, pos := "laws.go:487", after := #[], guard := none }) (v := ?_) rfl (by kernel_rfl) (by kernel_rfl) (by kernel_rfl) (fun _ _ _ h => h) (Or.inl ⟨by rfl, ?_⟩) (by assumption) ?_; rotate_left
            · intro W hW; (try dsimp only at hW); go_simp;  try (with_reducible rfl)
            try simp only [Act.put, List.setIfInBounds_toArray, List.set_cons_zero, List.set_cons_succ]
            refine wpAnyH_take (i := 2) (oi := { dst := some 120, op := Op.indexAddr 38 (Operand.tmp 118) (Operand.tmp 119), type := 0, pos := "laws.go:487", after := #[{ on := 0, ground := Ground.data }, { on := 1, ground := Ground.data }], guard := none }) (v := ?_) rfl (by kernel_rfl) (by kernel_rfl) (by kernel_rfl) (fun _ _ _ h => h) (Or.inl ⟨by rfl, ?_⟩) (by assumption) ?_; rotate_left
            · intro W hW; (try dsimp only at hW); go_simp;  try (with_reducible rfl)
            try simp only [Act.put, List.setIfInBounds_toArray, List.set_cons_zero, List.set_cons_succ]
            refine wpAnyH_take (i := 3) (oi := { dst := some 121, op := Op.load 3 (Operand.tmp 120), type := 3, pos := "laws.go:487", after := #[{ on := 2, ground := Ground.data }], guard := none }) (v := ?_) rfl (by kernel_rfl) (by kernel_rfl) (by kernel_rfl) (fun _ _ _ h => h) (Or.inl ⟨by rfl, ?_⟩) (by assumption) ?_; rotate_left
            · intro W hW; (try dsimp only at hW); go_simp;  try (with_reducible rfl)
            try simp only [Act.put, List.setIfInBounds_toArray, List.set_cons_zero, List.set_cons_succ]
            refine wpAnyH_take (i := 4) (oi := { dst := some 122, op := Op.fieldAddr 31 (Operand.tmp 3) 0, type := 0, pos := "laws.go:487", after := #[], guard := none }) (v := ?_) rfl (by kernel_rfl) (by kernel_rfl) (by kernel_rfl) (fun _ _ _ h => h) (Or.inl ⟨by rfl, ?_⟩) (by assumption) ?_; rotate_left
            · intro W hW; (try dsimp only at hW); go_simp;  try (with_reducible rfl)
            try simp only [Act.put, List.setIfInBounds_toArray, List.set_cons_zero, List.set_cons_succ]
            refine wpAnyH_take (i := 5) (oi := { dst := some 123, op := Op.load 28 (Operand.tmp 122), type := 28, pos := "laws.go:487", after := #[{ on := 4, ground := Ground.data }], guard := none }) (v := ?_) rfl (by kernel_rfl) (by kernel_rfl) (by kernel_rfl) (fun _ _ _ h => h) (Or.inl ⟨by rfl, ?_⟩) (by assumption) ?_; rotate_left
            · intro W hW; (try dsimp only at hW); go_simp;  try (with_reducible rfl)
            try simp only [Act.put, List.setIfInBounds_toArray, List.set_cons_zero, List.set_cons_succ]
            refine wpAnyH_ready (rs := [6]) (by kernel_rfl) (by simp) (AllReadyH.cons (i := 6) (o := { dst := some 124, op := Op.call { callee := Callee.value (Operand.func 34), args := #[Operand.tmp 123], argTypes := #[28] }, type := 3, pos := "laws.go:487", after := #[{ on := 5, ground := Ground.data }], guard := none }) rfl (fun K hK => ?_) AllReadyH.nil)
            go_simp
            refine ((unhide CE) _).mono ?_; rintro e y4 ⟨rfl, hb⟩
            try go_wp2_with fail
            refine hK.out _ _ (by (try dsimp only); first | assumption | exact s0 | exact keep7 (by assumption) (by assumption)) (fun hHeld => ?_)
            clear hK K
            try simp only [Act.put, List.setIfInBounds_toArray, List.set_cons_zero, List.set_cons_succ]
            refine wpAnyH_take (i := 7) (oi := { dst := some 125, op := Op.binOp BinOp.neq 3 (Operand.tmp 121) (Operand.tmp 124) 3, type := 4, pos := "laws.go:487", after := #[{ on := 3, ground := Ground.data }, { on := 6, ground := Ground.data }], guard := none }) (v := ?_) rfl (by kernel_rfl) (by kernel_rfl) (by kernel_rfl) (fun _ _ _ h => h) (Or.inl ⟨by rfl, ?_⟩) (by assumption) ?_; rotate_left
            · intro W hW; (try dsimp only at hW); go_simp;  try (with_reducible rfl)
            try simp only [Act.put, List.setIfInBounds_toArray, List.set_cons_zero, List.set_cons_succ]
            refine wpAnyH_done (by kernel_rfl) ?_ _
            have hE := hHeld.1
            clear hHeld s0
            have s64 : y3.heap.size ≤ y4.heap.size := Below.size hE
            have B64 := below_next (Nat.le_refl _) B63 hE
            have Kb64 := Kb63.below hE Kb63.lt
            have Xb64 := Xb63.below hE Xb63.lt
            have P64 := P63.below hE
            have I64 := I63.below hE
            have W64 := W63.below hE
            have Px64 := Px63.below hE
            clear B63 Kb63 Xb63 P63 I63 W63 Px63 hE
            rw [HAD.out]
            clear HAD HK
            have hcase := HC.out
            clear HC
            rcases hcase with ⟨he, wsi', HP2⟩ | ⟨he, ha, wsi', HP2⟩
            · skip
              have HP2 := hide HP2
              have ee : (x == Sx.two l + 1) = true := by rw [beq_iff_eq]; exact he
              have e7 : IntKind.i64.wrap ((i : Int) + 1) = ((i + 1 : Nat) : Int) := by rw [IntWalk.i64_in _ (by omega)]; omega
              clear he
              go_wp2_with fail
              go_roundw
              case rel => exact ⟨i + 1, Q, T, wsi', dsi ++ u, A', c', rfl, by first | rfl | go_num, by omega, HP2, by omega, Kb64, Xb64, P64, I64, W64, Px64, B64⟩
              case measure => simp [intOf]; omega
            · skip
              have ee : (x == Sx.two l + 1) = false := by rw [beq_eq_false_iff_ne]; exact he
              have CA := fun (A9 : Option Addr) (c9 : Nat) (wx : World) (hp : PR wx wx.heap.size A9 Q) => after_go (by omega) ha A9 c9 wx hp
              have hl2 := Sx.step_len l m Q b T x
              obtain ⟨Q2, hQ2⟩ : ∃ Q2, Q2 = Sx.stepP l m Q b T x := ⟨_, rfl⟩
              obtain ⟨T2, hT2⟩ : ∃ T2, T2 = Sx.advT l x := ⟨_, rfl⟩
              rw [← hQ2, ← hT2] at CA HP2
              rw [← hQ2] at hl2
              have CA := hide CA
              have HP2 := hide HP2
              have e7 : IntKind.i64.wrap ((i : Int) + 1) = ((i + 1 : Nat) : Int) := by rw [IntWalk.i64_in _ (by omega)]; omega
              clear he ha hQ2 hT2
              have Xbc0 : y4.cell? ⟨xq, 0, none⟩ = some (.int .i64 o) := Xb64.cell 0
              have Xbc1 : y4.cell? ⟨xq, 1, none⟩ = some (.int .i64 l) := Xb64.cell 1
              have Xbc2 : y4.cell? ⟨xq, 2, none⟩ = some (.int .i64 m) := Xb64.cell 2
              have Xbc3 : y4.cell? ⟨xq, 3, none⟩ = some (.slice A' Q.length c') := Xb64.cell 3
              have Xbc4 : y4.cell? ⟨xq, 4, none⟩ = some (.int .i64 b) := Xb64.cell 4
              have Xbc5 : y4.cell? ⟨xq, 5, none⟩ = some (.int .i64 T) := Xb64.cell 5
              have xt0 : y4.cell? ⟨ig, io + i, none⟩ = some (.int .i64 x) := (I64.ir (Nat.le_refl _)).cell hlt HX.out
              go_wp2_with fail
              have s0 : Below w.heap.size w y4.drew ∧ y4.drew.cell? ⟨ig, io + i, none⟩ = some (.int .i64 x) := ⟨B64.drew, xt0⟩
              refine wp_region_held_drew (S := (fun W => Below w.heap.size w W ∧ W.cell? ⟨ig, io + i, none⟩ = some (.int .i64 x))) (by kernel_rfl) (by first | assumption | exact s0 | exact HK1 | exact HK2) (fun hHeld => ?_)
              refine wpAnyH_take (i := 1) (oi := { dst := some 128, op := Op.move (Operand.tmp 4), type := 38, pos := "laws.go:488", after := #[], guard := none }) (v := ?_) rfl (by kernel_rfl) (by kernel_rfl) (by kernel_rfl) (fun _ _ _ h => h) (Or.inl ⟨by rfl, ?_⟩) (by assumption) ?_; rotate_left
              · intro W hW; (try dsimp only at hW); go_simp;  try (with_reducible rfl)
              try simp only [Act.put, List.setIfInBounds_toArray, List.set_cons_zero, List.set_cons_succ]
              refine wpAnyH_take (i := 2) (oi := { dst := some 129, op := Op.move (Operand.tmp 13), type := 3, pos := "laws.go:488", after := #[], guard := none }) (v := ?_) rfl (by kernel_rfl) (by kernel_rfl) (by kernel_rfl) (fun _ _ _ h => h) (Or.inl ⟨by rfl, ?_⟩) (by assumption) ?_; rotate_left
              · intro W hW; (try dsimp only at hW); go_simp;  try (with_reducible rfl)
              try simp only [Act.put, List.setIfInBounds_toArray, List.set_cons_zero, List.set_cons_succ]
              refine wpAnyH_take (i := 3) (oi := { dst := some 130, op := Op.indexAddr 38 (Operand.tmp 128) (Operand.tmp 129), type := 0, pos := "laws.go:488", after := #[{ on := 1, ground := Ground.data }, { on := 2, ground := Ground.data }], guard := none }) (v := ?_) rfl (by kernel_rfl) (by kernel_rfl) (by kernel_rfl) (fun _ _ _ h => h) (Or.inl ⟨by rfl, ?_⟩) (by assumption) ?_; rotate_left
              · intro W hW; (try dsimp only at hW); go_simp;  try (with_reducible rfl)
              try simp only [Act.put, List.setIfInBounds_toArray, List.set_cons_zero, List.set_cons_succ]
              refine wpAnyH_take (i := 4) (oi := { dst := some 131, op := Op.load 3 (Operand.tmp 130), type := 3, pos := "laws.go:488", after := #[{ on := 3, ground := Ground.data }], guard := none }) (v := ?_) rfl (by kernel_rfl) (by kernel_rfl) (by kernel_rfl) (fun _ _ _ h => h) (Or.inl ⟨by rfl, ?_⟩) (by assumption) ?_; rotate_left
              · intro W hW; (try dsimp only at hW); go_simp;  try (with_reducible rfl)
              try simp only [Act.put, List.setIfInBounds_toArray, List.set_cons_zero, List.set_cons_succ]
              refine wpAnyH_ready (rs := [0]) (by kernel_rfl) (by simp) (AllReadyH.cons (i := 0) (o := { dst := some 127, op := Op.load 31 (Operand.tmp 11), type := 31, pos := "laws.go:488", after := #[], guard := none }) rfl (fun K hK => ?_) AllReadyH.nil)
              go_simp
              refine hK.out _ _ (by (try dsimp only); first | assumption | exact s0 | exact HK1 | exact HK2) (fun hHeld => ?_)
              clear hK K
              try simp only [Act.put, List.setIfInBounds_toArray, List.set_cons_zero, List.set_cons_succ]
              refine wpAnyH_ready (rs := [5]) (by kernel_rfl) (by simp) (AllReadyH.cons (i := 5) (o := { dst := some 132, op := Op.call { callee := Callee.value (Operand.func 17), args := #[Operand.tmp 127, Operand.tmp 131], argTypes := #[31, 3] }, type := 32, pos := "laws.go:488", after := #[{ on := 0, ground := Ground.data }, { on := 4, ground := Ground.data }], guard := none }) rfl (fun K hK => ?_) AllReadyH.nil)
              go_simp
              refine ((unhide CA) _ _ _ ((Px64.below (Below.refl _ _).drew).pr (Nat.le_refl _))).mono ?_; rintro e y5 ⟨A5, c5, rfl, O5, hb5⟩
              have Kb65 := (Blk.drew Kb64).below hb5 Kb64.lt
              have Xb65 := (Blk.drew Xb64).below hb5 Xb64.lt
              have P65 := (P64.below (Below.refl _ _).drew).below hb5
              have I65 := (I64.below (Below.refl _ _).drew).below hb5
              have W65 := (W64.below (Below.refl _ _).drew).below hb5
              have B65 := below_next (Nat.le_refl _) B64.drew hb5
              have O5 := O5.mono B64.drew.size
              have HK1 : Below w.heap.size w y5 ∧ y5.cell? ⟨ig, io + i, none⟩ = some (.int .i64 x) := ⟨B65, (I65.ir (Nat.le_refl _)).cell hlt HX.out⟩
              try go_wp2_with fail
              refine hK.out _ _ (by (try dsimp only); first | exact HK1) (fun hHeld => ?_)
              clear hK K
              try simp only [Act.put, List.setIfInBounds_toArray, List.set_cons_zero, List.set_cons_succ]
              refine wpAnyH_take (i := 6) (oi := { dst := some 126, op := Op.move (Operand.tmp 132), type := 32, pos := "laws.go:488", after := #[{ on := 5, ground := Ground.data }], guard := none }) (v := ?_) rfl (by kernel_rfl) (by kernel_rfl) (by kernel_rfl) (fun _ _ _ h => h) (Or.inl ⟨by rfl, ?_⟩) (by assumption) ?_; rotate_left
              · intro W hW; (try dsimp only at hW); go_simp;  try (with_reducible rfl)
              try simp only [Act.put, List.setIfInBounds_toArray, List.set_cons_zero, List.set_cons_succ]
              refine wpAnyH_take (i := 7) (oi := { dst := some 133, op := Op.extract (Operand.tmp 126) 0, type := 31, pos := "laws.go:488", after := #[{ on := 6, ground := Ground.data }], guard := none }) (v := ?_) rfl (by kernel_rfl) (by kernel_rfl) (by kernel_rfl) (fun _ _ _ h => h) (Or.inl ⟨by rfl, ?_⟩) (by assumption) ?_; rotate_left
              · intro W hW; (try dsimp only at hW); go_simp;  try (with_reducible rfl)
              try simp only [Act.put, List.setIfInBounds_toArray, List.set_cons_zero, List.set_cons_succ]
              refine wpAnyH_take (i := 8) (oi := { dst := some 134, op := Op.extract (Operand.tmp 126) 1, type := 4, pos := "laws.go:488", after := #[{ on := 6, ground := Ground.data }, { on := 9, ground := Ground.gcOnly Departure.lateStores }], guard := none }) (v := ?_) rfl (by kernel_rfl) (by kernel_rfl) (by kernel_rfl) (fun _ _ _ h => h) (Or.inl ⟨by rfl, ?_⟩) (by assumption) ?_; rotate_left
              · intro W hW; (try dsimp only at hW); go_simp;  try (with_reducible rfl)
              try simp only [Act.put, List.setIfInBounds_toArray, List.set_cons_zero, List.set_cons_succ]
              refine wpAnyH_ready (rs := [9]) (by kernel_rfl) (by simp) (AllReadyH.cons (i := 9) (o := { dst := none, op := Op.store 31 (Operand.tmp 11) (Operand.tmp 133), type := 0, pos := "laws.go:488", after := #[{ on := 7, ground := Ground.data }, { on := 5, ground := Ground.chain }, { on := 0, ground := Ground.phase }, { on := 1, ground := Ground.phase }, { on := 2, ground := Ground.phase }, { on := 3, ground := Ground.phase }, { on := 4, ground := Ground.phase }, { on := 5, ground := Ground.phase }, { on := 6, ground := Ground.phase }, { on := 7, ground := Ground.phase }, { on := 8, ground := Ground.textOnly Departure.lateStores }], guard := none }) rfl (fun K hK => ?_) AllReadyH.nil)
              have a0 : y5.cell? ⟨xq, 0, none⟩ = some (.int .i64 o) := Xb65.cell 0
              have a1 : y5.cell? ⟨xq, 1, none⟩ = some (.int .i64 l) := Xb65.cell 1
              have a2 : y5.cell? ⟨xq, 2, none⟩ = some (.int .i64 m) := Xb65.cell 2
              have a3 : y5.cell? ⟨xq, 3, none⟩ = some (.slice A' Q.length c') := Xb65.cell 3
              have a4 : y5.cell? ⟨xq, 4, none⟩ = some (.int .i64 b) := Xb65.cell 4
              have a5 : y5.cell? ⟨xq, 5, none⟩ = some (.int .i64 T) := Xb65.cell 5
              have fa0 := Xb65.frozen 0
              have fa1 := Xb65.frozen 1
              have fa2 := Xb65.frozen 2
              have fa3 := Xb65.frozen 3
              have fa4 := Xb65.frozen 4
              have fa5 := Xb65.frozen 5
              have XS := blk6_set Xb65 (.int .i64 o) (.int .i64 l) (.int .i64 m) (.slice A5 Q2.length c5) (.int .i64 b) (.int .i64 T2)
              have HG := hide (only6 y5 xq (.int .i64 o) (.int .i64 l) (.int .i64 m) (.slice A5 Q2.length c5) (.int .i64 b) (.int .i64 T2))
              have KS := Kb65.far6 (g := xq) (by omega) (.int .i64 o) (.int .i64 l) (.int .i64 m) (.slice A5 Q2.length c5) (.int .i64 b) (.int .i64 T2)
              have PS := P65.grown HG.out (fun g hg => by injection hg with hg; subst hg; exact .inr r1)
              have IS := I65.grown HG.out (fun g hg => by injection hg with hg; subst hg; exact .inr r1)
              have WS := W65.grown HG.out (fun g hg => by injection hg with hg; subst hg; exact .inr r2)
              have OS := O5.only HG.out Xb65 (by decide)
              have BS := below_set6 (g := xq) B65 (by omega) (.int .i64 o) (.int .i64 l) (.int .i64 m) (.slice A5 Q2.length c5) (.int .i64 b) (.int .i64 T2)
              have HK2 : Below w.heap.size w ((((((y5.setCell ⟨xq, 0, none⟩ (.int .i64 o)).setCell ⟨xq, 1, none⟩ (.int .i64 l)).setCell ⟨xq, 2, none⟩ (.int .i64 m)).setCell ⟨xq, 3, none⟩ (.slice A5 Q2.length c5)).setCell ⟨xq, 4, none⟩ (.int .i64 b)).setCell ⟨xq, 5, none⟩ (.int .i64 T2)) ∧ ((((((y5.setCell ⟨xq, 0, none⟩ (.int .i64 o)).setCell ⟨xq, 1, none⟩ (.int .i64 l)).setCell ⟨xq, 2, none⟩ (.int .i64 m)).setCell ⟨xq, 3, none⟩ (.slice A5 Q2.length c5)).setCell ⟨xq, 4, none⟩ (.int .i64 b)).setCell ⟨xq, 5, none⟩ (.int .i64 T2)).cell? ⟨ig, io + i, none⟩ = some (.int .i64 x) := ⟨BS, (IS.ir (Nat.le_refl _)).cell hlt HX.out⟩
              go_simp
              clear a0 a1 a2 a3 a4 a5 fa0 fa1 fa2 fa3 fa4 fa5 HG
              refine hK.out _ _ (by (try dsimp only); first | exact HK2) (fun hHeld => ?_)
              clear hK K
              try simp only [Act.put, List.setIfInBounds_toArray, List.set_cons_zero, List.set_cons_succ]
              refine wpAnyH_take (i := 10) (oi := { dst := some 15, op := Op.assign (Operand.tmp 134), type := 4, pos := "laws.go:488", after := #[{ on := 8, ground := Ground.data }, { on := 9, ground := Ground.chain }, { on := 0, ground := Ground.phase }, { on := 1, ground := Ground.phase }, { on := 2, ground := Ground.phase }, { on := 3, ground := Ground.phase }, { on := 4, ground := Ground.phase }, { on := 5, ground := Ground.phase }, { on := 6, ground := Ground.phase }, { on := 7, ground := Ground.phase }, { on := 8, ground := Ground.phase }, { on := 9, ground := Ground.phase }], guard := none }) (v := ?_) rfl (by kernel_rfl) (by kernel_rfl) (by kernel_rfl) (fun _ _ _ h => h) (Or.inl ⟨by rfl, ?_⟩) (by assumption) ?_; rotate_left
              · intro W hW; (try dsimp only at hW); go_simp;  try (with_reducible rfl)
              try simp only [Act.put, List.setIfInBounds_toArray, List.set_cons_zero, List.set_cons_succ]
              refine wpAnyH_done (by kernel_rfl) ?_ _
              go_wp2_with fail
              go_roundw
              case rel => exact ⟨i + 1, Q2, T2, wsi', dsi ++ u, A5, c5, rfl, by first | rfl | go_num, by omega, HP2, by omega, KS, XS, PS, IS, WS, OS, BS⟩
              case measure => simp [intOf]; omega
          · skip
            obtain rfl : i = xs.length := by omega
            obtain ⟨he1, he2⟩ := Sx.pre_end HP.out hR.out
            have hDD := HDD.out
            rw [← he1] at hDD
            subst hDD
            have ee : ((ws.length : Int) == (xs.length : Int)) = true := by rw [beq_iff_eq]; omega
            clear he1 he2 HDD
            go_wp2_with fail
            go_ret
            exact ⟨rfl, B60⟩
  · have B0 : Below w.heap.size w w := Below.refl _ _
    have hnI : (1048576 : Int) < (n : Int) := by omega
    go_enter Try.func7, Try.ntmps7
    go_wp2_with fail
    go_ret
    exact ⟨rfl, B0⟩

end Go.Proofs.Ytegfcpdkehgdpaa

/- The walk of FnDataFits. Conditions: a slice of bytes. -/
import Derived.Test.YtkecappciglonaaDr10
import Derived.Test.YtkecappciglonaaD
import Derived.Test.YtkecappciglonaaPlw
namespace Go.Proofs.Ytkecappciglonaa
open Go.RowKit

/-- The law's own loop: valid and not too long, and the first k bytes are literals. -/
def Sx.goodK (o l m : Int) (s : ByteArray) (k : Nat) : Bool := Sx.setOK o l m && (decide (s.size ≤ 2000) && (s.data.toList.take k).all (Sx.isLit l))

theorem Sx.take_false {l : Int} {s : ByteArray} {k : Nat} (h : (s.data.toList.take k).all (Sx.isLit l) = false) : s.data.toList.all (Sx.isLit l) = false := by
  rw [List.all_eq_false] at h ⊢
  obtain ⟨x, hx, hp⟩ := h
  exact ⟨x, List.mem_of_mem_take hx, hp⟩
theorem Sx.take_true {l : Int} {s : ByteArray} {k : Nat} (hk : ¬ k < s.size) (h : (s.data.toList.take k).all (Sx.isLit l) = true) : s.data.toList.all (Sx.isLit l) = true := Sx.all_done hk h
theorem Sx.take_lit {l : Int} {s : ByteArray} {k : Nat} (hk : k < s.size) (h : (s.data.toList.take k).all (Sx.isLit l) = true) : (s.data.toList.take (k + 1)).all (Sx.isLit l) = decide ((s[k].toNat : Int) < Sx.two l) := by
  rw [Sx.take_snoc s k hk, List.all_append, h]; simp [Sx.isLit]

set_option maxRecDepth 100000 in
set_option maxHeartbeats 2000000 in
theorem law_FnDataFits (A : Option Addr) (n c : Nat) (w : World) (h : Src w w.heap.size A n) (hc : n ≤ c) (hcm : c ≤ maxLen) :
    Calls Try.prog 7 #[.slice A n c] w fun e w' => e = .returned (.bool true) ∧ Below w.heap.size w w' := by
  by_cases hn : n ≤ 1048576
  · have HD := hide (draw_DataFits A n c w h hn hc hcm)
    clear h
    go_enter Try.func7, Try.ntmps7
    go_wp2_with fail
    refine (unhide HD).mono ?_; rintro e w1 ⟨o, l, m, s, rfl, hf, hm, hb1⟩
    clear HD
    have K0 := Blk.new w1 42 #[.int .i64 o, .int .i64 l, .int .i64 m]
    have B1 := hb1.alloc hb1.size (.cells #[.int .i64 o, .int .i64 l, .int .i64 m] 42)
    have hz := hb1.size
    clear hb1
    go_wp2_with fail
    refine (impl_DataFits _ _ _ _ _ (by omega)).mono ?_; rintro e w2 ⟨rfl, hb2⟩
    have B2 := below_next (Nat.le_refl _) B1 hb2
    have k2 := K0.below hb2 (by simp)
    clear K0 hb2 B1
    have c0 : w2.cell? ⟨w1.heap.size, 0, none⟩ = some (.int .i64 o) := k2.cell 0
    have c1 : w2.cell? ⟨w1.heap.size, 1, none⟩ = some (.int .i64 l) := k2.cell 1
    have c2 : w2.cell? ⟨w1.heap.size, 2, none⟩ = some (.int .i64 m) := k2.cell 2
    go_wp2_with fail
    refine (spec_DataFits _ _ _ _ _ (by omega)).mono ?_; rintro e w3 ⟨rfl, hb3⟩
    have B3 := below_next (Nat.le_refl _) B2 hb3
    have k3 := k2.below hb3 k2.lt
    clear k2 hb3 B2 c0 c1 c2
    have c0 : w3.cell? ⟨w1.heap.size, 0, none⟩ = some (.int .i64 o) := k3.cell 0
    have c1 : w3.cell? ⟨w1.heap.size, 1, none⟩ = some (.int .i64 l) := k3.cell 1
    have c2 : w3.cell? ⟨w1.heap.size, 2, none⟩ = some (.int .i64 m) := k3.cell 2
    go_wp2_with fail
    refine (impl_SettingValid _ _ _ _).mono ?_; rintro e w4 ⟨rfl, hb4⟩
    have B4 := below_next (Nat.le_refl _) B3 hb4
    have k4 := k3.below hb4 k3.lt
    clear k3 hb4 B3 c0 c1 c2
    by_cases hs : Sx.setOK o l m = true
    · by_cases hz2 : s.size ≤ 2000
      · have HF := hide (show Sx.fits o l m s = s.data.toList.all (Sx.isLit l) by simp [Sx.fits, hs, hz2])
        have hbd := Sx.setOK_bd hs
        have HC := hide (Sx.clear_yes hs)
        rw [hs]
        clear hs
        go_wp2_with fail
        go_loopw [6, 7] (fun gd i wr => ∃ (k : Nat) (b : Bool), k ≤ s.size ∧ i = .int .i64 k ∧ gd = .bool b ∧ Hid ((s.data.toList.take k).all (Sx.isLit l) = b) ∧ Below w.heap.size w wr ∧ Blk wr w1.heap.size 42 #[.int .i64 o, .int .i64 l, .int .i64 m]) (fun _ i _ => s.size - (intOf i).toNat)
        case atStart => exact ⟨0, true, Nat.zero_le _, rfl, vbool (decide_eq_true (by omega)), rfl, B4, k4⟩
        case round =>
          obtain ⟨k, b, hk, rfl, rfl, HB, hbw, kb⟩ := hrel
          cases b
          · have HZ := hide (show s.data.toList.all (Sx.isLit l) = false from Sx.take_false HB.out)
            by_cases hlt : k < s.size
            · go_wp2_with fail
              go_ret
              exact ⟨ret_bool (by rw [HF.out, HZ.out] <;> rfl), hbw⟩
            · go_wp2_with fail
              go_ret
              exact ⟨ret_bool (by rw [HF.out, HZ.out] <;> rfl), hbw⟩
          · by_cases hlt : k < s.size
            · have c0 : wr.cell? ⟨w1.heap.size, 0, none⟩ = some (.int .i64 o) := kb.cell 0
              have c1 : wr.cell? ⟨w1.heap.size, 1, none⟩ = some (.int .i64 l) := kb.cell 1
              have c2 : wr.cell? ⟨w1.heap.size, 2, none⟩ = some (.int .i64 m) := kb.cell 2
              have hkb := kwrap_byte s[k]
              have hkb2 := wrap_byte s[k]
              have HN := hide (Sx.take_lit hlt HB.out)
              have hkl := kb.lt
              have i0 : (0 : Int) ≤ (k : Int) := Int.natCast_nonneg _
              have i1 : (k : Int) < (s.size : Int) := by omega
              go_wp2_with fail
              go_region_with (go_at_call 37; refine (impl_ClearCode o l m _).mono ?_; rintro e w5 ⟨rfl, hb5⟩)
              all_goals
                have hb5' : Below wr.heap.size wr w5 := ⟨hb5.os, hb5.tape, hb5.output, hb5.size, hb5.block⟩
                rw [HC.out]
                go_wp2
                go_roundw
                case rel => exact ⟨k + 1, _, by omega, by go_num, rfl, HN, below_next (Nat.le_refl _) hbw hb5', kb.below hb5' hkl⟩
                case measure => simp [intOf]; omega
            · have HZ := hide (Sx.take_true hlt HB.out)
              go_wp2_with fail
              go_ret
              exact ⟨ret_bool (by rw [HF.out, HZ.out] <;> rfl), hbw⟩
      · have HF := hide (Sx.fits_len (o := o) (l := l) (m := m) hz2)
        rw [hs]
        clear hs
        go_wp2_with fail
        go_loopw [6, 7] (fun gd i wr => i = .int .i64 0 ∧ gd = .bool false ∧ Below w.heap.size w wr) (fun _ _ _ => 0)
        case atStart => exact ⟨rfl, vbool (decide_eq_false (by omega)), B4⟩
        case round =>
          obtain ⟨rfl, rfl, hbw⟩ := hrel
          by_cases hp : 0 < s.size
          · go_wp2_with fail
            go_ret
            exact ⟨ret_bool (by rw [HF.out] <;> rfl), hbw⟩
          · go_wp2_with fail
            go_ret
            exact ⟨ret_bool (by rw [HF.out] <;> rfl), hbw⟩
    · have hs : Sx.setOK o l m = false := by simpa using hs
      have HF := hide (Sx.fits_set (s := s) hs)
      rw [hs]
      clear hs
      go_wp2_with fail
      go_loopw [6, 7] (fun gd i wr => i = .int .i64 0 ∧ gd = .bool false ∧ Below w.heap.size w wr) (fun _ _ _ => 0)
      case atStart => exact ⟨rfl, rfl, B4⟩
      case round =>
        obtain ⟨rfl, rfl, hbw⟩ := hrel
        by_cases hp : 0 < s.size
        · go_wp2_with fail
          go_ret
          exact ⟨ret_bool (by rw [HF.out] <;> rfl), hbw⟩
        · go_wp2_with fail
          go_ret
          exact ⟨ret_bool (by rw [HF.out] <;> rfl), hbw⟩
  · clear h
    go_enter Try.func7, Try.ntmps7
    go_wp2_with fail
    go_ret
    exact ⟨rfl, Below.refl _ _⟩
end Go.Proofs.Ytkecappciglonaa

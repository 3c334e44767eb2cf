/- The walks of ParseHex. Conditions: a string of at most 1048576 bytes where a slice is made ahead of the test of its length. -/
import Derived.Test.YtkecappciglonaaK
namespace Go.Proofs.Ytkecappciglonaa
open Go.RowKit

theorem or_all : ∀ a b : Fin 16, bits .or .i64 ((a.val : Int) * 16) (b.val : Int) = ((16 * a.val + b.val : Nat) : Int) := by decide +kernel
theorem or_hex {a b : Int} (ha : 0 ≤ a) (ha' : a ≤ 15) (hb : 0 ≤ b) (hb' : b ≤ 15) : bits .or .i64 (a * 16) b = 16 * a + b := by
  obtain ⟨x, rfl⟩ := Int.eq_ofNat_of_zero_le ha
  obtain ⟨y, rfl⟩ := Int.eq_ofNat_of_zero_le hb
  have := or_all ⟨x, by omega⟩ ⟨y, by omega⟩
  simp only at this
  rw [this]; omega
theorem hexL : ({ data := #[48, 49, 50, 51, 52, 53, 54, 55, 56, 57, 97, 98, 99, 100, 101, 102] } : ByteArray).data.toList = Sx.hexDigits := rfl

theorem impl_idx (b : UInt8) (w : World) :
    Calls Try.prog 91 #[.string { data := #[48, 49, 50, 51, 52, 53, 54, 55, 56, 57, 97, 98, 99, 100, 101, 102] }, .int .u8 (b.toNat : Int)] w fun e w' => e = .returned (.int .i64 (Sx.hexv b)) ∧ w = w' := idx_byte _ b w
theorem spec_idx (b : UInt8) (w : World) :
    Calls Try.prog 93 #[.string { data := #[48, 49, 50, 51, 52, 53, 54, 55, 56, 57, 97, 98, 99, 100, 101, 102] }, .int .u8 (b.toNat : Int)] w fun e w' => e = .returned (.int .i64 (Sx.hexv b)) ∧ w = w' := spec_l9Find _ b w (by decide)

set_option maxRecDepth 100000 in
set_option maxHeartbeats 1000000 in
theorem impl_ParseHex (s : ByteArray) (w : World) (hs : s.size ≤ 9223372036854775807) :
    Calls Try.prog 45 #[.string s] w fun e w' => e = .returned (.tuple #[.string (Sx.phS s), .bool (Sx.phOK s)]) ∧ Below w.heap.size w w' := by
  by_cases he : s.size % 2 = 0
  · have hev : (((s.size : Int) % 2) != 0) = false := by rw [bne_eq_false_iff_eq]; omega
    by_cases hm : s.size ≤ 8000
    · obtain ⟨i0, hi0, hz0, hz1, hz2⟩ := info_parts try_info8
      have HE := hide he
      clear he
      go_enter Try.func45, Try.ntmps45
      go_wp2_with (at_make; refine wpList_make_own _ rfl (.const (.int .i64 0)) (.tmp 19) 22 rfl w.heap.size 5 i0 (.int .u8 0) 1 Try.underlying22 hi0 hz0 hz1 .i64 .i64 _ (s.size / 2) rfl rfl (by omega) (by rw [hz2]; omega) (by simp only [maxLen]; omega) (Nat.le_refl _) ?_; intro w1 hown1 hgrow1)
      have hb1 : Below w.heap.size w w1 := (Below.refl _ _).grown hgrow1 (Nat.le_refl _) (by simp)
      go_loopw [4, 5, 6, 7] (fun v i _ _ wr => ∃ k : Nat, 2 * k ≤ s.size ∧ i = .int .i64 (2 * (k : Int)) ∧ Hid (Sx.hgood s.data.toList k = true) ∧ wr.ownsRow w.heap.size 5 1 v (Sx.hout s.data.toList k).length (bvals (Sx.hout s.data.toList k)) ∧ Below w.heap.size w wr) (fun _ i _ _ _ => s.size - (intOf i).toNat)
      case atStart => exact ⟨0, by omega, rfl, rfl, hown1, hb1⟩
      case round =>
        obtain ⟨k, hk, rfl, hgood, hrow, hbw⟩ := hrel
        have hlen : (Sx.hout s.data.toList k).length ≤ 4000 := by rw [Sx.hout_length]; omega
        have hz := hbw.size
        by_cases hlt : 2 * k < s.size
        · have hlt2 : 2 * k + 1 < s.size := by have := HE.out; omega
          have H1 := hide (Sx.hhi_at s k hlt)
          have H2 := hide (Sx.hlo_at s k hlt2)
          have b1 := Sx.hexv_all s[2 * k]
          have b2 := Sx.hexv_all s[2 * k + 1]
          obtain ⟨b1a, b1b⟩ := b1
          obtain ⟨b2a, b2b⟩ := b2
          by_cases g1 : 0 ≤ Sx.hexv s[2 * k]
          · by_cases g2 : 0 ≤ Sx.hexv s[2 * k + 1]
            · have HG := hide (Sx.hgood_succ hgood.out (by rw [H1.out]; exact g1) (by rw [H2.out]; exact g2))
              have HO := hide (Sx.hout_succ s.data.toList k)
              have ho := or_hex g1 b1b g2 b2b
              have HV := hide (show 16 * Sx.hexv s[2 * k] + Sx.hexv s[2 * k + 1] = ((UInt8.ofNat (16 * Sx.hhi s.data.toList k + Sx.hlo s.data.toList k).toNat).toNat : Int) by
                rw [H1.out, H2.out, UInt8.toNat_ofNat']; omega)
              go_wp2_with (first
                | (go_at_call 91; refine (impl_idx _ _).mono ?_; rintro e w' ⟨rfl, rfl⟩)
                | (at_builtin; refine wpList_append_own _ rfl (.tmp 42) (.tmp 48) _ rfl w.heap.size 5 i0 (.int .u8 0) 1 1 Try.underlying22 hi0 hz0 hz1 hz2 rfl (by decide) _ _ _ rfl (hrow.alloc _) ⟨wr.heap.size, 0, none⟩ 1 1 [.int .u8 (16 * Sx.hexv s[2 * k] + Sx.hexv s[2 * k + 1])] rfl rfl (u8_new _ _ _) (by simp [Value.oneCell']) (by simp only [maxLen]; omega) (by omega) (by simp; omega) ?_; intro v' w2 hown' hgrow _))
              go_roundw
              case rel => exact ⟨k + 1, by omega, by go_num, HG, by rw [HO.out]; exact own_snoc HV.out hown', (hbw.alloc hz _).grown hgrow (by simp; omega) fun g hg => (hrow.lt g hg).1⟩
              case measure => simp [intOf]; omega
            · have HB := hide (Sx.ph_bad (Sx.hgood_bad (m := s.size / 2) (k := k) (l := s.data.toList) (by omega) (by rw [H1.out, H2.out]; exact fun h => g2 h.2)))
              have hr := hide (Sx.ph_no HB.out)
              go_wp2_with (go_at_call 91; refine (impl_idx _ _).mono ?_; rintro e w' ⟨rfl, rfl⟩)
              go_ret2
              exact ⟨ret2 (vstr hr.out.symm) (vbool HB.out.symm), hbw⟩
          · have HB := hide (Sx.ph_bad (Sx.hgood_bad (m := s.size / 2) (k := k) (l := s.data.toList) (by omega) (by rw [H1.out]; exact fun h => g1 h.1)))
            have hr := hide (Sx.ph_no HB.out)
            go_wp2_with (go_at_call 91; refine (impl_idx _ _).mono ?_; rintro e w' ⟨rfl, rfl⟩)
            go_ret2
            exact ⟨ret2 (vstr hr.out.symm) (vbool HB.out.symm), hbw⟩
        · have hk2 : k = s.size / 2 := by omega
          have HO := hide (Sx.ph_mk HE.out hm (by rw [← hk2]; exact hgood.out))
          have hr := hide (show Sx.phS s = str (Sx.hout s.data.toList k) by rw [hk2]; exact Sx.ph_yes HO.out)
          clear hk2
          have hcv := run_own_string (P := Try.prog) wr 22 9 5 Try.underlying22 Try.underlying5 Try.underlying9 hrow
          go_wp2_with fail
          go_ret2
          exact ⟨ret2 (vstr hr.out.symm) (vbool HO.out.symm), hbw⟩
    · have HB := hide (Sx.ph_long hm)
      have hr := hide (Sx.ph_no HB.out)
      clear he
      go_enter Try.func45, Try.ntmps45
      go_wp2_with fail
      go_ret2
      exact ⟨ret2 (vstr hr.out.symm) (vbool HB.out.symm), Below.refl _ _⟩
  · have hev : (((s.size : Int) % 2) != 0) = true := by rw [bne_iff_ne]; omega
    have HB := hide (Sx.ph_odd he)
    have hr := hide (Sx.ph_no HB.out)
    clear he
    go_enter Try.func45, Try.ntmps45
    go_wp2_with fail
    go_ret2
    exact ⟨ret2 (vstr hr.out.symm) (vbool HB.out.symm), Below.refl _ _⟩
set_option maxRecDepth 100000 in
set_option maxHeartbeats 1000000 in
theorem spec_ParseHex (s : ByteArray) (w : World) (hs : s.size ≤ 1048576) :
    Calls Try.prog 47 #[.string s] w fun e w' => e = .returned (.tuple #[.string (Sx.phS s), .bool (Sx.phOK s)]) ∧ Below w.heap.size w w' := by
  by_cases he : s.size % 2 = 0
  · have hev : (((s.size : Int) % 2) != 0) = false := by rw [bne_eq_false_iff_eq]; omega
    by_cases hm : s.size ≤ 8000
    · obtain ⟨i0, hi0, hz0, hz1, hz2⟩ := info_parts try_info8
      have HE := hide he
      clear he
      go_enter Try.func47, Try.ntmps47
      go_wp2_with (at_make; refine wpList_make_own _ rfl (.const (.int .i64 0)) (.tmp 10) 22 rfl w.heap.size 5 i0 (.int .u8 0) 1 Try.underlying22 hi0 hz0 hz1 .i64 .i64 _ (s.size / 2) rfl rfl (by omega) (by rw [hz2]; omega) (by simp only [maxLen]; omega) (Nat.le_refl _) ?_; intro w1 hown1 hgrow1)
      have hb1 : Below w.heap.size w w1 := (Below.refl _ _).grown hgrow1 (Nat.le_refl _) (by simp)
      go_loopw [4, 5, 6, 7] (fun v i _ _ wr => ∃ k : Nat, 2 * k ≤ s.size ∧ i = .int .i64 (2 * (k : Int)) ∧ Hid (Sx.hgood s.data.toList k = true) ∧ wr.ownsRow w.heap.size 5 1 v (Sx.hout s.data.toList k).length (bvals (Sx.hout s.data.toList k)) ∧ Below w.heap.size w wr) (fun _ i _ _ _ => s.size - (intOf i).toNat)
      case atStart => exact ⟨0, by omega, rfl, rfl, hown1, hb1⟩
      case round =>
        obtain ⟨k, hk, rfl, hgood, hrow, hbw⟩ := hrel
        have hlen : (Sx.hout s.data.toList k).length ≤ 4000 := by rw [Sx.hout_length]; omega
        have hz := hbw.size
        by_cases hlt : 2 * k < s.size
        · have hlt2 : 2 * k + 1 < s.size := by have := HE.out; omega
          have H1 := hide (Sx.hhi_at s k hlt)
          have H2 := hide (Sx.hlo_at s k hlt2)
          have b1 := Sx.hexv_all s[2 * k]
          have b2 := Sx.hexv_all s[2 * k + 1]
          obtain ⟨b1a, b1b⟩ := b1
          obtain ⟨b2a, b2b⟩ := b2
          by_cases g1 : 0 ≤ Sx.hexv s[2 * k]
          · by_cases g2 : 0 ≤ Sx.hexv s[2 * k + 1]
            · have HG := hide (Sx.hgood_succ hgood.out (by rw [H1.out]; exact g1) (by rw [H2.out]; exact g2))
              have HO := hide (Sx.hout_succ s.data.toList k)
              have HV := hide (show 16 * Sx.hexv s[2 * k] + Sx.hexv s[2 * k + 1] = ((UInt8.ofNat (16 * Sx.hhi s.data.toList k + Sx.hlo s.data.toList k).toNat).toNat : Int) by
                rw [H1.out, H2.out, UInt8.toNat_ofNat']; omega)
              go_wp2_with (first
                | (go_at_call 93; refine (spec_idx _ _).mono ?_; rintro e w' ⟨rfl, rfl⟩)
                | (at_builtin; refine wpList_append_own _ rfl (.tmp 42) (.tmp 48) _ rfl w.heap.size 5 i0 (.int .u8 0) 1 1 Try.underlying22 hi0 hz0 hz1 hz2 rfl (by decide) _ _ _ rfl (hrow.alloc _) ⟨wr.heap.size, 0, none⟩ 1 1 [.int .u8 (16 * Sx.hexv s[2 * k] + Sx.hexv s[2 * k + 1])] rfl rfl (u8_new _ _ _) (by simp [Value.oneCell']) (by simp only [maxLen]; omega) (by omega) (by simp; omega) ?_; intro v' w2 hown' hgrow _))
              go_roundw
              case rel => exact ⟨k + 1, by omega, by go_num, HG, by rw [HO.out]; exact own_snoc HV.out hown', (hbw.alloc hz _).grown hgrow (by simp; omega) fun g hg => (hrow.lt g hg).1⟩
              case measure => simp [intOf]; omega
            · have HB := hide (Sx.ph_bad (Sx.hgood_bad (m := s.size / 2) (k := k) (l := s.data.toList) (by omega) (by rw [H1.out, H2.out]; exact fun h => g2 h.2)))
              have hr := hide (Sx.ph_no HB.out)
              go_wp2_with (go_at_call 93; refine (spec_idx _ _).mono ?_; rintro e w' ⟨rfl, rfl⟩)
              go_ret2
              exact ⟨ret2 (vstr hr.out.symm) (vbool HB.out.symm), hbw⟩
          · have HB := hide (Sx.ph_bad (Sx.hgood_bad (m := s.size / 2) (k := k) (l := s.data.toList) (by omega) (by rw [H1.out]; exact fun h => g1 h.1)))
            have hr := hide (Sx.ph_no HB.out)
            go_wp2_with (go_at_call 93; refine (spec_idx _ _).mono ?_; rintro e w' ⟨rfl, rfl⟩)
            go_ret2
            exact ⟨ret2 (vstr hr.out.symm) (vbool HB.out.symm), hbw⟩
        · have hk2 : k = s.size / 2 := by omega
          have HO := hide (Sx.ph_mk HE.out hm (by rw [← hk2]; exact hgood.out))
          have hr := hide (show Sx.phS s = str (Sx.hout s.data.toList k) by rw [hk2]; exact Sx.ph_yes HO.out)
          clear hk2
          have hcv := run_own_string (P := Try.prog) wr 22 9 5 Try.underlying22 Try.underlying5 Try.underlying9 hrow
          go_wp2_with fail
          go_ret2
          exact ⟨ret2 (vstr hr.out.symm) (vbool HO.out.symm), hbw⟩
    · have HB := hide (Sx.ph_long hm)
      have hr := hide (Sx.ph_no HB.out)
      clear he
      obtain ⟨i0, hi0, hz0, hz1, hz2⟩ := info_parts try_info8
      go_enter Try.func47, Try.ntmps47
      go_wp2_with (at_make; refine wpList_make_own _ rfl (.const (.int .i64 0)) (.tmp 10) 22 rfl w.heap.size 5 i0 (.int .u8 0) 1 Try.underlying22 hi0 hz0 hz1 .i64 .i64 _ (s.size / 2) rfl rfl (by omega) (by rw [hz2]; omega) (by simp only [maxLen]; omega) (Nat.le_refl _) ?_; intro w1 hown1 hgrow1)
      have hb1 : Below w.heap.size w w1 := (Below.refl _ _).grown hgrow1 (Nat.le_refl _) (by simp)
      go_ret2
      exact ⟨ret2 (vstr hr.out.symm) (vbool HB.out.symm), hb1⟩
  · have hev : (((s.size : Int) % 2) != 0) = true := by rw [bne_iff_ne]; omega
    have HB := hide (Sx.ph_odd he)
    have hr := hide (Sx.ph_no HB.out)
    clear he
    obtain ⟨i0, hi0, hz0, hz1, hz2⟩ := info_parts try_info8
    go_enter Try.func47, Try.ntmps47
    go_wp2_with (at_make; refine wpList_make_own _ rfl (.const (.int .i64 0)) (.tmp 10) 22 rfl w.heap.size 5 i0 (.int .u8 0) 1 Try.underlying22 hi0 hz0 hz1 .i64 .i64 _ (s.size / 2) rfl rfl (by omega) (by rw [hz2]; omega) (by simp only [maxLen]; omega) (Nat.le_refl _) ?_; intro w1 hown1 hgrow1)
    have hb1 : Below w.heap.size w w1 := (Below.refl _ _).grown hgrow1 (Nat.le_refl _) (by simp)
    go_ret2
    exact ⟨ret2 (vstr hr.out.symm) (vbool HB.out.symm), hb1⟩
end Go.Proofs.Ytkecappciglonaa

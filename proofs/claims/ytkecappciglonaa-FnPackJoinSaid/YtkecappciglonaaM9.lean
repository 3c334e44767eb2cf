/- The walk of FnPackUnpack. Conditions: a slice of bytes. -/
import Derived.Test.YtkecappciglonaaDr7
import Derived.Test.YtkecappciglonaaN
import Derived.Test.YtkecappciglonaaH
import Derived.Test.YtkecappciglonaaPlw
import Derived.Test.YtkecappciglonaaM8
namespace Go.Proofs.Ytkecappciglonaa
open Go.RowKit

theorem Sx.pack_len {hi : Bool} {s : ByteArray} (h : s.size ≤ 32001) : (str (Sx.packL hi s.data.toList)).size ≤ 4001 := by
  rw [str_size, Sx.packL_length, Sx.len_bytes]; omega

set_option maxRecDepth 100000 in
set_option maxHeartbeats 1000000 in
theorem law_FnPackUnpack (A : Option Addr) (n c : Nat) (w : World) (h : Src w w.heap.size A n) (hc : n ≤ c) (hcm : c ≤ maxLen) :
    Calls Try.prog 16 #[.slice A n c] w fun e w' => e = .returned (.bool true) ∧ Below w.heap.size w w' := by
  by_cases hn : n ≤ 1048576
  · have HD := hide (draw_PackBits A n c w h hn hc hcm)
    clear h
    go_enter Try.func16, Try.ntmps16
    go_wp2_with fail
    refine (unhide HD).mono ?_; rintro e w1 ⟨o, l, rfl, _, hl, hb⟩
    clear HD
    have hm : (str l).size ≤ 32001 := by rw [str_size]; exact hl
    generalize str l = s at hm
    clear hl
    by_cases ho : Sx.ordOK o = true
    · by_cases hv : Sx.bitsValid s = true
      · have HV := hide hv
        have HK := hide (Sx.pack_mk ho hv)
        have HS := hide (Sx.pack_yes HK.out)
        have HP := hide (Sx.pad_yes hv)
        have hl0 := Sx.len_bytes s
        have hz : (str (Sx.packL (Sx.hiOf o) s.data.toList)).size = (s.size + 7) / 8 := by rw [str_size, Sx.packL_length, hl0]
        have hs := Sx.valid_len hv
        have HT := hide (Sx.stream_mk (s := str (Sx.packL (Sx.hiOf o) s.data.toList)) ho (by omega))
        have HU := hide (show Sx.ubS o (str (Sx.packL (Sx.hiOf o) s.data.toList)) = str (Sx.padL s.data.toList) by
          rw [Sx.ub_yes HT.out, str_data, Sx.un_pack (Sx.valid_all hv)])
        have hz2 : (str (Sx.padL s.data.toList)).size = 8 * ((s.size + 7) / 8) := by rw [str_size, Sx.padL_length, hl0]
        have hz3 : (8 * ((str (Sx.packL (Sx.hiOf o) s.data.toList)).size : Int) == ((str (Sx.padL s.data.toList)).size : Int)) = true := by rw [beq_iff_eq]; omega
        generalize str (Sx.packL (Sx.hiOf o) s.data.toList) = t at HS hz HT HU hz3
        generalize str (Sx.padL s.data.toList) = u at HP HU hz2 hz3
        clear hv hl0
        have HO := hide ho
        have ho2 := Sx.ord_of ho
        clear ho
        go_wp2_with fail
        refine (impl_PackBits _ _ _ (by omega)).mono ?_; rintro e w2 ⟨rfl, hb2⟩
        rw [HK.out, HS.out]
        have B2 := below_next (Nat.le_refl _) hb hb2
        go_wp2_with fail
        refine (spec_PackBits _ _ _ (by omega)).mono ?_; rintro e w3 ⟨rfl, hb3⟩
        rw [HK.out, HS.out]
        have B3 := below_next (Nat.le_refl _) B2 hb3
        rcases ho2 with rfl | rfl
        all_goals
          go_wp2_with fail
          refine (impl_BitsValid _ _ (by omega)).mono ?_; rintro e w4 ⟨rfl, rfl⟩
          rw [HV.out]
          go_wp2_with fail
          refine (impl_UnpackBits _ _ _ (by omega)).mono ?_; rintro e w5 ⟨rfl, hb5⟩
          rw [HT.out, HU.out]
          have B5 := below_next (Nat.le_refl _) B3 hb5
          go_wp2_with fail
          refine (impl_PadBits _ _ (by omega)).mono ?_; rintro e w6 ⟨rfl, hb6⟩
          rw [HV.out, HP.out]
          have B6 := below_next (Nat.le_refl _) B5 hb6
          go_wp2_with fail
          go_ret
          exact ⟨rfl, B6⟩
      · have hv : Sx.bitsValid s = false := by simpa using hv
        have HV := hide hv
        have HK := hide (Sx.pack_val (o := o) hv)
        have HS := hide (Sx.pack_no HK.out)
        have ho2 := Sx.ord_of ho
        clear ho hv
        go_wp2_with fail
        refine (impl_PackBits _ _ _ (by omega)).mono ?_; rintro e w2 ⟨rfl, hb2⟩
        rw [HK.out, HS.out]
        have B2 := below_next (Nat.le_refl _) hb hb2
        go_wp2_with fail
        refine (spec_PackBits _ _ _ (by omega)).mono ?_; rintro e w3 ⟨rfl, hb3⟩
        rw [HK.out, HS.out]
        have B3 := below_next (Nat.le_refl _) B2 hb3
        rcases ho2 with rfl | rfl
        all_goals
          go_wp2_with fail
          refine (impl_BitsValid _ _ (by omega)).mono ?_; rintro e w4 ⟨rfl, rfl⟩
          rw [HV.out]
          go_wp2_with fail
          go_ret
          exact ⟨rfl, B3⟩
    · have ho : Sx.ordOK o = false := by simpa using ho
      have HK := hide (Sx.pack_ord (s := s) ho)
      have HS := hide (Sx.pack_no HK.out)
      have h01 : ¬ (o = 0 ∨ o = 1) := by simpa [Sx.ordOK] using ho
      have e0 : (o == 0) = false := by simpa using fun e => h01 (.inl e)
      have e1 : (o == 1) = false := by simpa using fun e => h01 (.inr e)
      clear ho h01
      go_wp2_with fail
      refine (impl_PackBits _ _ _ (by omega)).mono ?_; rintro e w2 ⟨rfl, hb2⟩
      rw [HK.out, HS.out]
      have B2 := below_next (Nat.le_refl _) hb hb2
      go_wp2_with fail
      refine (spec_PackBits _ _ _ (by omega)).mono ?_; rintro e w3 ⟨rfl, hb3⟩
      rw [HK.out, HS.out]
      have B3 := below_next (Nat.le_refl _) B2 hb3
      go_wp2_with fail
      go_ret
      exact ⟨rfl, B3⟩
  · clear h
    go_enter Try.func16, Try.ntmps16
    go_wp2_with fail
    go_ret
    exact ⟨rfl, Below.refl _ _⟩
end Go.Proofs.Ytkecappciglonaa

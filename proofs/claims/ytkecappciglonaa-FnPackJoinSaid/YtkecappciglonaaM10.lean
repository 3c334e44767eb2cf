/- The walk of FnPackJoin. Conditions: two slices of bytes. -/
import Derived.Test.YtkecappciglonaaDr7
import Derived.Test.YtkecappciglonaaN
import Derived.Test.YtkecappciglonaaPlw
import Derived.Test.YtkecappciglonaaM9
namespace Go.Proofs.Ytkecappciglonaa
open Go.RowKit

theorem Sx.join_pack {hi : Bool} (a b : ByteArray) : str (Sx.packL hi (str (Sx.padL a.data.toList) ++ b).data.toList) = str (Sx.packL hi a.data.toList) ++ str (Sx.packL hi b.data.toList) := by
  have e : (str (Sx.padL a.data.toList) ++ b) = str (Sx.padL a.data.toList ++ b.data.toList) := str_append _ b.data.toList
  rw [e, str_data, Sx.pack_join, str_append]

set_option maxRecDepth 100000 in
set_option maxHeartbeats 1000000 in
theorem law_FnPackJoin (A : Option Addr) (n c : Nat) (A' : Option Addr) (n' c' : Nat) (w : World) (h : Src w w.heap.size A n) (hc : n ≤ c) (hcm : c ≤ maxLen) (h' : Src w w.heap.size A' n') (hc' : n' ≤ c') (hcm' : c' ≤ maxLen) :
    Calls Try.prog 15 #[.slice A n c, .slice A' n' c'] w fun e w' => e = .returned (.bool true) ∧ Below w.heap.size w w' := by
  by_cases hn : n ≤ 1048576
  · by_cases hn' : n' ≤ 1048576
    · have HD := hide (draw_PackBits A n c w h hn hc hcm)
      have HD2 := hide (fun (w1 : World) (hb : Below w.heap.size w w1) => draw_PackBits A' n' c' w1 (h'.next hb) hn' hc' hcm')
      clear h h'
      go_enter Try.func15, Try.ntmps15
      go_wp2_with fail
      refine (unhide HD).mono ?_; rintro e w1 ⟨o, l, rfl, _, hl, hb1⟩
      clear HD
      have C := hide ((unhide HD2) w1 hb1)
      clear HD2
      go_wp2_with fail
      refine (unhide C).mono ?_; rintro e w2 ⟨o', l', rfl, _, hl', hb2⟩
      clear C
      have hb := below_next (Nat.le_refl _) hb1 hb2
      clear hb1 hb2
      have hm : (str l).size ≤ 32001 := by rw [str_size]; exact hl
      have hm' : (str l').size ≤ 32001 := by rw [str_size]; exact hl'
      generalize str l = s at hm
      generalize str l' = s' at hm'
      clear hl hl'
      by_cases hk : Sx.packOK o s = true
      · have hq : Sx.ordOK o = true ∧ Sx.bitsValid s = true := by simpa [Sx.packOK] using hk
        have HK := hide hk
        have HS := hide (Sx.pack_yes hk)
        have HP := hide (Sx.pad_yes hq.2)
        have HV := hide hq.2
        have hl0 := Sx.len_bytes s
        have hz : (str (Sx.packL (Sx.hiOf o) s.data.toList)).size ≤ 4001 := Sx.pack_len hm
        have hz2 : (str (Sx.padL s.data.toList)).size ≤ 32008 := by rw [str_size, Sx.padL_length, hl0]; omega
        have HJ := hide (Sx.join_pack (hi := Sx.hiOf o) s s')
        have hz4 := Sx.pack_len (hi := Sx.hiOf o) hm'
        generalize str (Sx.packL (Sx.hiOf o) s.data.toList) = t at HS hz HJ
        generalize str (Sx.padL s.data.toList) = u at HP hz2 HJ
        have hz3 : u.size + s'.size ≤ 9223372036854775807 := by omega
        have hz5 : (u ++ s').size ≤ 9223372036854775807 := by rw [ByteArray.size_append]; exact hz3
        have ho := hide hq.1
        clear hk hl0 hq
        go_wp2_with fail
        refine (impl_PackBits _ _ _ (by omega)).mono ?_; rintro e w3 ⟨rfl, hb3⟩
        rw [HK.out, HS.out]
        have B3 := below_next (Nat.le_refl _) hb hb3
        go_wp2_with fail
        refine (spec_PackBits _ _ _ (by omega)).mono ?_; rintro e w4 ⟨rfl, hb4⟩
        rw [HK.out, HS.out]
        have B4 := below_next (Nat.le_refl _) B3 hb4
        go_wp2_with fail
        refine (impl_PadBits _ _ (by omega)).mono ?_; rintro e w5 ⟨rfl, hb5⟩
        rw [HV.out, HP.out]
        have B5 := below_next (Nat.le_refl _) B4 hb5
        by_cases hv' : Sx.bitsValid s' = true
        · have HV' := hide hv'
          have HK' := hide (Sx.pack_mk ho.out hv')
          have HS' := hide (Sx.pack_yes HK'.out)
          generalize str (Sx.packL (Sx.hiOf o) s'.data.toList) = t' at HS' HJ hz4
          by_cases hv2 : Sx.bitsValid (u ++ s') = true
          · have HV2 := hide hv2
            have HK2 := hide (Sx.pack_mk ho.out hv2)
            have HS2 := hide ((Sx.pack_yes HK2.out).trans HJ.out)
            have hz6 : t.size + t'.size ≤ 9223372036854775807 := by omega
            clear hv' hv2
            go_wp2_with fail
            refine (impl_BitsValid _ _ (by omega)).mono ?_; rintro e w6 ⟨rfl, rfl⟩
            rw [HV'.out]
            go_wp2_with fail
            refine (impl_BitsValid _ _ hz5).mono ?_; rintro e w6 ⟨rfl, rfl⟩
            rw [HV2.out]
            go_wp2_with fail
            refine (impl_PackBits _ _ _ (by omega)).mono ?_; rintro e w7 ⟨rfl, hb7⟩
            rw [HK'.out, HS'.out]
            have B7 := below_next (Nat.le_refl _) B5 hb7
            go_wp2_with fail
            refine (impl_PackBits _ _ _ hz5).mono ?_; rintro e w8 ⟨rfl, hb8⟩
            rw [HK2.out, HS2.out]
            have B8 := below_next (Nat.le_refl _) B7 hb8
            go_wp2_with fail
            go_ret
            exact ⟨rfl, B8⟩
          · have HV2 := hide (show Sx.bitsValid (u ++ s') = false by simpa using hv2)
            clear hv' hv2
            go_wp2_with fail
            refine (impl_BitsValid _ _ (by omega)).mono ?_; rintro e w6 ⟨rfl, rfl⟩
            rw [HV'.out]
            go_wp2_with fail
            refine (impl_BitsValid _ _ hz5).mono ?_; rintro e w6 ⟨rfl, rfl⟩
            rw [HV2.out]
            go_wp2_with fail
            go_ret
            exact ⟨rfl, B5⟩
        · have HV' := hide (show Sx.bitsValid s' = false by simpa using hv')
          clear hv'
          go_wp2_with fail
          refine (impl_BitsValid _ _ (by omega)).mono ?_; rintro e w6 ⟨rfl, rfl⟩
          rw [HV'.out]
          go_wp2_with fail
          go_ret
          exact ⟨rfl, B5⟩
      · have hk : Sx.packOK o s = false := by simpa using hk
        have HK := hide hk
        have HS := hide (Sx.pack_no hk)
        clear hk
        go_wp2_with fail
        refine (impl_PackBits _ _ _ (by omega)).mono ?_; rintro e w3 ⟨rfl, hb3⟩
        rw [HK.out, HS.out]
        have B3 := below_next (Nat.le_refl _) hb hb3
        go_wp2_with fail
        refine (spec_PackBits _ _ _ (by omega)).mono ?_; rintro e w4 ⟨rfl, hb4⟩
        rw [HK.out, HS.out]
        have B4 := below_next (Nat.le_refl _) B3 hb4
        go_wp2_with fail
        refine (impl_PadBits _ _ (by omega)).mono ?_; rintro e w5 ⟨rfl, hb5⟩
        have B5 := below_next (Nat.le_refl _) B4 hb5
        go_wp2_with fail
        go_ret
        exact ⟨rfl, B5⟩
    · clear h h'
      go_enter Try.func15, Try.ntmps15
      go_wp2_with fail
      go_ret
      exact ⟨rfl, Below.refl _ _⟩
  · clear h h'
    go_enter Try.func15, Try.ntmps15
    go_wp2_with fail
    go_ret
    exact ⟨rfl, Below.refl _ _⟩
end Go.Proofs.Ytkecappciglonaa

/- The walk of FnHexText. Conditions: two slices of bytes. -/
import Derived.Test.YtkecappciglonaaDr7
import Derived.Test.YtkecappciglonaaQ
import Derived.Test.YtkecappciglonaaPlw
namespace Go.Proofs.Ytkecappciglonaa
open Go.RowKit

set_option maxRecDepth 100000 in
set_option maxHeartbeats 1000000 in
theorem law_FnHexText (A : Option Addr) (n c : Nat) (A' : Option Addr) (n' c' : Nat) (w : World) (h : Src w w.heap.size A n) (hc : n ≤ c) (hcm : c ≤ maxLen) (h' : Src w w.heap.size A' n') (hc' : n' ≤ c') (hcm' : c' ≤ maxLen) :
    Calls Try.prog 9 #[.slice A n c, .slice A' n' c'] w fun e w' => e = .returned (.bool true) ∧ Below w.heap.size w w' := by
  by_cases hn : n ≤ 1048576
  · by_cases hn' : n' ≤ 1048576
    · have HD := hide (draw_FormatHex A n c w h hn hc hcm)
      have HD2 := hide (fun (w1 : World) (hb : Below w.heap.size w w1) => draw_ParseHex A' n' c' w1 (h'.next hb) hn' hc' hcm')
      clear h h'
      go_enter Try.func9, Try.ntmps9
      go_wp2_with fail
      refine (unhide HD).mono ?_; rintro e w1 ⟨l, rfl, hl, hb1⟩
      clear HD
      have hm : (str l).size ≤ 4001 := by rw [str_size]; exact hl
      generalize str l = s at hm
      clear hl
      go_wp2_with fail
      refine (impl_FormatHex _ _ (by omega)).mono ?_; rintro e w2 ⟨rfl, hb2⟩
      have B2 := below_next (Nat.le_refl _) hb1 hb2
      go_wp2_with fail
      refine (spec_FormatHex _ _ (by omega)).mono ?_; rintro e w3 ⟨rfl, hb3⟩
      have B3 := below_next (Nat.le_refl _) B2 hb3
      have HH := hide (fun (h4 : s.size ≤ 4000) => Sx.ph_fhex h4)
      generalize Sx.fhexS s = t at HH
      by_cases h4 : s.size ≤ 4000
      · obtain ⟨p1, p2, p3⟩ := HH.out h4
        have HP1 := hide p1
        have HP2 := hide p2
        have hz : (t.size : Int) = 2 * (s.size : Int) := by omega
        have hz2 : t.size ≤ 8000 := by omega
        clear p1 p2 p3 HH
        go_wp2_with fail
        refine (impl_ParseHex _ _ (by omega)).mono ?_; rintro e w4 ⟨rfl, hb4⟩
        rw [HP1.out, HP2.out]
        have B4 := below_next (Nat.le_refl _) B3 hb4
        have C := hide ((unhide HD2) w4 B4)
        clear HD2 HP1 HP2
        go_wp2_with fail
        refine (unhide C).mono ?_; rintro e w5 ⟨l', rfl, hl', hb5⟩
        clear C
        have B5 := below_next (Nat.le_refl _) B4 hb5
        have hm' : (str l').size ≤ 100 := by rw [str_size]; exact hl'
        generalize str l' = s' at hm'
        clear hl' hz hz2
        go_wp2_with fail
        refine (impl_ParseHex _ _ (by omega)).mono ?_; rintro e w6 ⟨rfl, hb6⟩
        have B6 := below_next (Nat.le_refl _) B5 hb6
        go_wp2_with fail
        refine (spec_ParseHex _ _ (by omega)).mono ?_; rintro e w7 ⟨rfl, hb7⟩
        have B7 := below_next (Nat.le_refl _) B6 hb7
        by_cases hk : Sx.phOK s' = true
        · have HK := hide hk
          have HF := hide (Sx.fhex_ph hk)
          have hz3 := Sx.ph_size hk
          rw [hk]
          generalize Sx.phS s' = u at HF hz3
          clear hk
          go_wp2_with fail
          refine (impl_FormatHex _ _ (by omega)).mono ?_; rintro e w8 ⟨rfl, hb8⟩
          rw [HF.out]
          have B8 := below_next (Nat.le_refl _) B7 hb8
          go_wp2_with fail
          go_ret
          exact ⟨rfl, B8⟩
        · have hk : Sx.phOK s' = false := by simpa using hk
          rw [hk]
          clear hk
          go_wp2_with fail
          go_ret
          exact ⟨rfl, B7⟩
      · clear HH
        have C := hide ((unhide HD2) w3 B3)
        clear HD2
        go_wp2_with fail
        refine (unhide C).mono ?_; rintro e w5 ⟨l', rfl, hl', hb5⟩
        clear C
        have B5 := below_next (Nat.le_refl _) B3 hb5
        have hm' : (str l').size ≤ 100 := by rw [str_size]; exact hl'
        generalize str l' = s' at hm'
        clear hl'
        go_wp2_with fail
        refine (impl_ParseHex _ _ (by omega)).mono ?_; rintro e w6 ⟨rfl, hb6⟩
        have B6 := below_next (Nat.le_refl _) B5 hb6
        go_wp2_with fail
        refine (spec_ParseHex _ _ (by omega)).mono ?_; rintro e w7 ⟨rfl, hb7⟩
        have B7 := below_next (Nat.le_refl _) B6 hb7
        by_cases hk : Sx.phOK s' = true
        · have HF := hide (Sx.fhex_ph hk)
          have hz3 := Sx.ph_size hk
          rw [hk]
          generalize Sx.phS s' = u at HF hz3
          clear hk
          go_wp2_with fail
          refine (impl_FormatHex _ _ (by omega)).mono ?_; rintro e w8 ⟨rfl, hb8⟩
          rw [HF.out]
          have B8 := below_next (Nat.le_refl _) B7 hb8
          go_wp2_with fail
          go_ret
          exact ⟨rfl, B8⟩
        · have hk : Sx.phOK s' = false := by simpa using hk
          rw [hk]
          clear hk
          go_wp2_with fail
          go_ret
          exact ⟨rfl, B7⟩
    · clear h h'
      go_enter Try.func9, Try.ntmps9
      go_wp2_with fail
      go_ret
      exact ⟨rfl, Below.refl _ _⟩
  · clear h h'
    go_enter Try.func9, Try.ntmps9
    go_wp2_with fail
    go_ret
    exact ⟨rfl, Below.refl _ _⟩
end Go.Proofs.Ytkecappciglonaa

/- The walk of FnBitAt. Conditions: a slice of bytes. -/
import Derived.Test.YtkecappciglonaaDr4
import Derived.Test.YtkecappciglonaaI
import Derived.Test.YtkecappciglonaaM2
namespace Go.Proofs.Ytkecappciglonaa
open Go.RowKit

set_option maxRecDepth 100000 in
set_option maxHeartbeats 1000000 in
theorem law_FnBitAt (A : Option Addr) (n c : Nat) (w : World) (h : Src w w.heap.size A n) (hc : n ≤ c) (hcm : c ≤ maxLen) :
    Calls Try.prog 4 #[.slice A n c] w fun e w' => e = .returned (.bool true) ∧ Below w.heap.size w w' := by
  by_cases hn : n ≤ 1048576
  · have HD := hide (draw_BitAt A n c w h hn hc hcm)
    clear h
    go_enter Try.func4, Try.ntmps4
    go_wp2_with fail
    refine (unhide HD).mono ?_; rintro e w1 ⟨o, l, a, rfl, _, hl, ⟨ha0, ha1⟩, hb⟩
    clear HD
    have hm : (str l).size ≤ 6 := by rw [str_size]; exact hl
    generalize str l = s at hm
    clear hl
    by_cases ho : Sx.streamOK o s = true
    · have HO := hide ho
      have HU := hide (Sx.ub_yes ho)
      have hz := hide (Sx.un_size (Sx.hiOf o) s)
      by_cases h1 : 0 ≤ a ∧ a < 8 * (s.size : Int)
      · obtain ⟨N, rfl⟩ := Int.eq_ofNat_of_zero_le h1.1
        have h2 : N < 8 * s.size := by omega
        obtain ⟨b, hbt⟩ : ∃ b, Sx.bitAt (Sx.hiOf o) 8 (s[N / 8]'(by omega)).toNat (N % 8) = Sx.dig b := ⟨_, rfl⟩
        have hr := hide (Sx.at_yes ho h2 hbt)
        have hg := hide ((Sx.un_get (Sx.hiOf o) s N h2).trans hbt)
        clear hbt ho h1
        go_wp2_with fail
        refine (impl_BitAt _ _ _ _ (by omega)).mono ?_; rintro e w2 ⟨rfl, hb2⟩
        have B2 := below_next (Nat.le_refl _) hb hb2
        go_wp2_with fail
        refine (spec_BitAt _ _ _ _ (by omega)).mono ?_; rintro e w3 ⟨rfl, hb3⟩
        have B3 := below_next (Nat.le_refl _) B2 hb3
        go_wp2_with fail
        refine (impl_UnpackBits _ _ _ (by omega)).mono ?_; rintro e w4 ⟨rfl, hb4⟩
        rw [HO.out, HU.out]
        have B4 := below_next (Nat.le_refl _) B3 hb4
        have h3 : N < (str (Sx.unpackL (Sx.hiOf o) s.data.toList)).size := by rw [hz.out]; exact h2
        have hv : ((str (Sx.unpackL (Sx.hiOf o) s.data.toList))[N].toNat : Int) = 48 + if b then 1 else 0 := by rw [hg.out]; exact Sx.dig_val b
        have hrr : Sx.bitI o s (N : Int) = if b then 1 else 0 := hr.out
        rw [hrr]
        cases b
        · simp only [Bool.false_eq_true, if_false, Int.add_zero] at hv ⊢
          go_wp2_with fail
          go_ret
          exact ⟨rfl, B4⟩
        · simp only [if_true] at hv ⊢
          go_wp2_with fail
          go_ret
          exact ⟨rfl, B4⟩
      · have hr := hide (Sx.at_no (o := o) h1)
        clear ho
        go_wp2_with fail
        refine (impl_BitAt _ _ _ _ (by omega)).mono ?_; rintro e w2 ⟨rfl, hb2⟩
        rw [hr.out]
        have B2 := below_next (Nat.le_refl _) hb hb2
        go_wp2_with fail
        refine (spec_BitAt _ _ _ _ (by omega)).mono ?_; rintro e w3 ⟨rfl, hb3⟩
        rw [hr.out]
        have B3 := below_next (Nat.le_refl _) B2 hb3
        go_wp2_with fail
        refine (impl_UnpackBits _ _ _ (by omega)).mono ?_; rintro e w4 ⟨rfl, hb4⟩
        rw [HO.out, HU.out]
        have B4 := below_next (Nat.le_refl _) B3 hb4
        by_cases h2 : a < 0
        · go_wp2_with fail
          go_ret
          exact ⟨rfl, B4⟩
        · have h3 : ((str (Sx.unpackL (Sx.hiOf o) s.data.toList)).size : Int) ≤ a := by rw [hz.out]; omega
          go_wp2_with fail
          go_ret
          exact ⟨rfl, B4⟩
    · have ho : Sx.streamOK o s = false := by simpa using ho
      have HO := hide ho
      have hr := hide (Sx.at_stream (n := a) ho)
      clear ho
      go_wp2_with fail
      refine (impl_BitAt _ _ _ _ (by omega)).mono ?_; rintro e w2 ⟨rfl, hb2⟩
      rw [hr.out]
      have B2 := below_next (Nat.le_refl _) hb hb2
      go_wp2_with fail
      refine (spec_BitAt _ _ _ _ (by omega)).mono ?_; rintro e w3 ⟨rfl, hb3⟩
      rw [hr.out]
      have B3 := below_next (Nat.le_refl _) B2 hb3
      go_wp2_with fail
      refine (impl_UnpackBits _ _ _ (by omega)).mono ?_; rintro e w4 ⟨rfl, hb4⟩
      rw [HO.out]
      have B4 := below_next (Nat.le_refl _) B3 hb4
      go_wp2_with fail
      go_ret
      exact ⟨rfl, B4⟩
  · clear h
    go_enter Try.func4, Try.ntmps4
    go_wp2_with fail
    go_ret
    exact ⟨rfl, Below.refl _ _⟩
end Go.Proofs.Ytkecappciglonaa

/- The walk of FnBitsNeeded. Conditions: a slice of bytes. -/
import Derived.Test.YtkecappciglonaaDr
import Derived.Test.YtkecappciglonaaA
namespace Go.Proofs.Ytkecappciglonaa
open Go.RowKit

theorem Sx.needI_neg {n : Int} (h : n < 0) : Sx.needI n = -1 := if_pos h
theorem Sx.needI_nat (n : Nat) : Sx.needI n = (Sx.need n : Int) := by rw [Sx.needI, if_neg (by omega), Int.toNat_natCast]

set_option maxRecDepth 100000 in
set_option maxHeartbeats 1000000 in
theorem law_FnBitsNeeded (A : Option Addr) (n c : Nat) (w : World) (h : Src w w.heap.size A n) (hc : n ≤ c) (hcm : c ≤ maxLen) :
    Calls Try.prog 3 #[.slice A n c] w fun e w' => e = .returned (.bool true) ∧ Below w.heap.size w w' := by
  by_cases hn : n ≤ 1048576
  · have HD := hide (draw_BitsNeeded A n c w h hn hc hcm)
    clear h
    go_enter Try.func3, Try.ntmps3
    go_wp2_with fail
    refine (unhide HD).mono ?_; rintro e w1 ⟨v, rfl, ⟨v0, v1⟩, hb⟩
    clear HD
    by_cases c0 : v < 0
    · have HN := hide (Sx.needI_neg c0)
      go_wp2_with (first
        | (go_at_call 18; refine (impl_BitsNeeded _ _ v0 v1).mono ?_; rintro e w' ⟨rfl, rfl⟩; rw [HN.out])
        | (go_at_call 19; refine (spec_BitsNeeded _ _ v0 v1).mono ?_; rintro e w' ⟨rfl, rfl⟩; rw [HN.out]))
      go_ret
      exact ⟨rfl, hb⟩
    · obtain ⟨N, rfl⟩ := Int.eq_ofNat_of_zero_le (show 0 ≤ v by omega)
      have HN := hide (Sx.needI_nat N)
      have hp := Sx.need_pos N
      have hle := Sx.need_le64 (n := N) (by omega)
      by_cases c1 : N = 0
      · subst c1
        have H0 := hide (Sx.need_small (n := 0) (by omega))
        go_wp2_with (first
          | (go_at_call 18; refine (impl_BitsNeeded _ _ v0 v1).mono ?_; rintro e w' ⟨rfl, rfl⟩; rw [HN.out, H0.out])
          | (go_at_call 19; refine (spec_BitsNeeded _ _ v0 v1).mono ?_; rintro e w' ⟨rfl, rfl⟩; rw [HN.out, H0.out]))
        go_ret
        exact ⟨rfl, hb⟩
      · by_cases c2 : N = 1
        · subst c2
          have H0 := hide (Sx.need_small (n := 1) (by omega))
          go_wp2_with (first
            | (go_at_call 18; refine (impl_BitsNeeded _ _ v0 v1).mono ?_; rintro e w' ⟨rfl, rfl⟩; rw [HN.out, H0.out])
            | (go_at_call 19; refine (spec_BitsNeeded _ _ v0 v1).mono ?_; rintro e w' ⟨rfl, rfl⟩; rw [HN.out, H0.out]))
          go_ret
          exact ⟨rfl, hb⟩
        · have HH := hide (Sx.need_half (n := N) (by omega))
          have HM := hide (show Sx.needI ((N : Int) / 2) = (Sx.need (N / 2) : Int) by rw [show ((N : Int) / 2) = ((N / 2 : Nat) : Int) from by omega]; exact Sx.needI_nat _)
          have HC := hide (show Sx.needI (N : Int) = (Sx.need (N / 2) : Int) + 1 by rw [HN.out, HH.out]; omega)
          have hle2 := Sx.need_le64 (n := N / 2) (by omega)
          have t1 : ((N : Int) == 1) = false := by rw [beq_eq_false_iff_ne]; omega
          clear hle hp
          go_wp2_with fail
          refine (impl_BitsNeeded _ _ v0 v1).mono ?_; rintro e w' ⟨rfl, rfl⟩; rw [HC.out]
          go_wp2_with fail
          refine (spec_BitsNeeded _ _ v0 v1).mono ?_; rintro e w' ⟨rfl, rfl⟩; rw [HC.out]
          go_wp2_with fail
          refine (impl_BitsNeeded _ _ (by omega) (by omega)).mono ?_; rintro e w' ⟨rfl, rfl⟩; rw [HM.out]
          go_wp2_with fail
          go_ret
          exact ⟨rfl, hb⟩
  · clear h
    go_enter Try.func3, Try.ntmps3
    go_wp2_with fail
    go_ret
    exact ⟨rfl, Below.refl _ _⟩
end Go.Proofs.Ytkecappciglonaa

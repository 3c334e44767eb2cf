/- The walk of FnReverseBits. Conditions: a slice of bytes. -/
import Derived.Test.YtkecappciglonaaDr2
import Derived.Test.YtkecappciglonaaG
namespace Go.Proofs.Ytkecappciglonaa
open Go.RowKit

theorem Sx.rev_cbits {N D : Nat} : Sx.cbits false (Sx.numOf true (Sx.cbits false N D)) D = (Sx.cbits false N D).reverse := by
  have h := Sx.cbits_numLow (Sx.cbits false N D).reverse (by rw [Sx.all_reverse]; exact Sx.cbits_all _ _ _)
  rw [List.length_reverse, Sx.cbits_length] at h
  exact h
theorem Sx.rev_rev {N D : Nat} (h : N < 2 ^ D) : Sx.numOf true (Sx.cbits false (Sx.numOf true (Sx.cbits false N D)) D) = N := by
  rw [Sx.rev_cbits]
  show Sx.numLow (Sx.cbits false N D).reverse.reverse = N
  rw [List.reverse_reverse, Sx.numLow_cbits _ _ h]
theorem Sx.rev_high {N D : Nat} : Sx.cbits true (Sx.numOf true (Sx.cbits false N D)) D = Sx.cbits false N D := by
  rw [Sx.cbits_rev, Sx.rev_cbits, List.reverse_reverse]
theorem Sx.two_nat (D : Nat) : Sx.two D = ((2 ^ D : Nat) : Int) := by unfold Sx.two; rw [Int.toNat_natCast]

set_option maxRecDepth 100000 in
set_option maxHeartbeats 1000000 in
theorem law_FnReverseBits (A : Option Addr) (n c : Nat) (w : World) (h : Src w w.heap.size A n) (hc : n ≤ c) (hcm : c ≤ maxLen) :
    Calls Try.prog 10 #[.slice A n c] w fun e w' => e = .returned (.bool true) ∧ Below w.heap.size w w' := by
  by_cases hn : n ≤ 1048576
  · have HD := hide (draw_ReverseBits A n c w h hn hc hcm)
    clear h
    go_enter Try.func10, Try.ntmps10
    go_wp2_with fail
    refine (unhide HD).mono ?_; rintro e w1 ⟨v, d, rfl, _, _, hb⟩
    clear HD
    by_cases ho : Sx.codeOK 0 v d = true
    · obtain ⟨_, d1, d2, v1, v2⟩ := Sx.code_bd ho
      obtain ⟨N, rfl⟩ := Int.eq_ofNat_of_zero_le v1
      obtain ⟨D, rfl⟩ := Int.eq_ofNat_of_zero_le (show 0 ≤ d by omega)
      rw [Sx.two_nat] at v2
      have hlt : N < 2 ^ D := by exact_mod_cast v2
      have HR := hide (show Sx.revN (N : Int) (D : Int) = (Sx.numOf true (Sx.cbits false N D) : Int) from Sx.rev_yes ho)
      have hklt : Sx.numOf true (Sx.cbits false N D) < 2 ^ D := by have := Sx.numOf_lt true (Sx.cbits false N D); rwa [Sx.cbits_length] at this
      have hk2 : ((Sx.numOf true (Sx.cbits false N D) : Nat) : Int) < Sx.two D := by rw [Sx.two_nat]; exact_mod_cast hklt
      have HO1 := hide (Sx.code_mk (o := 0) (n := (Sx.numOf true (Sx.cbits false N D) : Int)) (wd := (D : Int)) (by decide) d1 d2 (by omega) hk2)
      have HO2 := hide (Sx.code_mk (o := 1) (n := (Sx.numOf true (Sx.cbits false N D) : Int)) (wd := (D : Int)) (by decide) d1 d2 (by omega) hk2)
      have HB := hide (show Sx.revN (Sx.numOf true (Sx.cbits false N D) : Int) (D : Int) = (N : Int) by rw [Sx.rev_yes HO1.out]; simp only [Int.toNat_natCast]; rw [Sx.rev_rev hlt])
      have HL := hide (show Sx.cbS 0 (N : Int) (D : Int) = str (Sx.cbits false N D) from Sx.code_yes ho)
      have HH := hide (show Sx.cbS 1 (Sx.numOf true (Sx.cbits false N D) : Int) (D : Int) = str (Sx.cbits false N D) by
        rw [Sx.code_yes HO2.out]; simp only [Int.toNat_natCast]; rw [show Sx.hiOf 1 = true from rfl, Sx.rev_high])
      have HO := hide ho
      clear hk2 hklt hlt v2 ho
      go_wp2_with fail
      refine (impl_ReverseBits _ _ _).mono ?_; rintro e w2 ⟨rfl, hb2⟩
      rw [HO.out, HR.out]
      have B2 := below_next (Nat.le_refl _) hb hb2
      go_wp2_with fail
      refine (spec_ReverseBits _ _ _).mono ?_; rintro e w3 ⟨rfl, hb3⟩
      rw [HO.out, HR.out]
      have B3 := below_next (Nat.le_refl _) B2 hb3
      go_wp2_with fail
      refine (impl_ReverseBits _ _ _).mono ?_; rintro e w4 ⟨rfl, hb4⟩
      rw [HO1.out, HB.out]
      have B4 := below_next (Nat.le_refl _) B3 hb4
      go_wp2_with fail
      refine (impl_CodeBits _ _ _ _).mono ?_; rintro e w5 ⟨rfl, hb5⟩
      rw [HO.out, HL.out]
      have B5 := below_next (Nat.le_refl _) B4 hb5
      go_wp2_with fail
      refine (impl_CodeBits _ _ _ _).mono ?_; rintro e w6 ⟨rfl, hb6⟩
      rw [HO2.out, HH.out]
      have B6 := below_next (Nat.le_refl _) B5 hb6
      go_wp2_with fail
      go_ret
      exact ⟨rfl, B6⟩
    · have ho : Sx.codeOK 0 v d = false := by simpa using ho
      go_wp2_with fail
      refine (impl_ReverseBits _ _ _).mono ?_; rintro e w2 ⟨rfl, hb2⟩
      have B2 := below_next (Nat.le_refl _) hb hb2
      go_wp2_with fail
      refine (spec_ReverseBits _ _ _).mono ?_; rintro e w3 ⟨rfl, hb3⟩
      have B3 := below_next (Nat.le_refl _) B2 hb3
      go_wp2_with fail
      go_ret
      exact ⟨rfl, B3⟩
  · clear h
    go_enter Try.func10, Try.ntmps10
    go_wp2_with fail
    go_ret
    exact ⟨rfl, Below.refl _ _⟩
end Go.Proofs.Ytkecappciglonaa

/- The walk of FnBitsCode. Conditions: a slice of bytes. -/
import Derived.Test.YtkecappciglonaaDr7
import Derived.Test.YtkecappciglonaaM3
import Derived.Test.YtkecappciglonaaA
namespace Go.Proofs.Ytkecappciglonaa
open Go.RowKit

theorem Sx.need_le {n k : Nat} (h : n < 2 ^ k) (hk : 1 ≤ k) : Sx.need n ≤ k := by
  unfold Sx.need
  by_cases h0 : n = 0
  · subst h0; simp; omega
  · have := (Nat.log2_lt h0 (k := k)).2 h; omega
theorem Sx.bc_all {o : Int} {s : ByteArray} (h : Sx.bcOK o s = true) : Sx.ordOK o = true ∧ Sx.bitsValid s = true ∧ 1 ≤ s.size ∧ s.size ≤ 10 := by
  simpa [Sx.bcOK] using h
theorem Sx.cb_back {o : Int} {s : ByteArray} (h : Sx.bcOK o s = true) : Sx.codeOK o (Sx.bcN o s) (s.size : Int) = true ∧ Sx.cbS o (Sx.bcN o s) (s.size : Int) = s := by
  obtain ⟨h0, h1, h2, h3⟩ := Sx.bc_all h
  have hl := Sx.len_bytes s
  have hlt := Sx.numOf_lt (Sx.hiOf o) s.data.toList
  rw [hl] at hlt
  have hok : Sx.codeOK o (Sx.bcN o s) (s.size : Int) = true := by
    rw [Sx.bc_yes h]
    refine Sx.code_mk h0 (by omega) (by omega) (by omega) ?_
    rw [Sx.two_nat']; exact_mod_cast hlt
  refine ⟨hok, ?_⟩
  rw [Sx.code_yes hok, Sx.bc_yes h, Int.toNat_natCast, Int.toNat_natCast]
  have := Sx.cbits_numOf (Sx.hiOf o) s.data.toList (Sx.valid_all h1)
  rw [hl] at this
  rw [this]; exact str_self s
theorem Sx.bc_turn {o : Int} {s : ByteArray} (h : Sx.bcOK o s = true) : Sx.bcOK (1 - o) (str s.data.toList.reverse) = true ∧ Sx.bcN (1 - o) (str s.data.toList.reverse) = Sx.bcN o s := by
  obtain ⟨h0, h1, h2, h3⟩ := Sx.bc_all h
  have hl := Sx.len_bytes s
  have ho := Sx.ord_of h0
  have hz : (str s.data.toList.reverse).size = s.size := by rw [str_size, List.length_reverse, hl]
  have hok : Sx.bcOK (1 - o) (str s.data.toList.reverse) = true := by
    refine Sx.bc_mk (by rcases ho with rfl | rfl <;> rfl) ?_ (by omega) (by omega)
    simp only [Sx.bitsValid, Bool.and_eq_true, decide_eq_true_iff]
    exact ⟨by omega, by rw [str_data, Sx.all_reverse]; exact Sx.valid_all h1⟩
  refine ⟨hok, ?_⟩
  rw [Sx.bc_yes hok, Sx.bc_yes h, str_data, Sx.hi_not ho, Sx.numOf_rev]
theorem Sx.bc_need {o : Int} {s : ByteArray} (h : Sx.bcOK o s = true) : Sx.needI (Sx.bcN o s) ≤ (s.size : Int) ∧ 0 ≤ Sx.bcN o s ∧ Sx.bcN o s ≤ 1024 := by
  obtain ⟨_, _, h2, h3⟩ := Sx.bc_all h
  have hlt := Sx.numOf_lt (Sx.hiOf o) s.data.toList
  rw [Sx.len_bytes s] at hlt
  have hp := Sx.pow_le_1024 h3
  rw [Sx.bc_yes h]
  refine ⟨?_, by omega, by omega⟩
  have := Sx.need_le hlt h2
  unfold Sx.needI
  rw [if_neg (by omega), Int.toNat_natCast]
  omega

set_option maxRecDepth 100000 in
set_option maxHeartbeats 1000000 in
theorem law_FnBitsCode (A : Option Addr) (n c : Nat) (w : World) (h : Src w w.heap.size A n) (hc : n ≤ c) (hcm : c ≤ maxLen) :
    Calls Try.prog 13 #[.slice A n c] w fun e w' => e = .returned (.bool true) ∧ Below w.heap.size w w' := by
  by_cases hn : n ≤ 1048576
  · have HD := hide (draw_BitsCode A n c w h hn hc hcm)
    clear h
    go_enter Try.func13, Try.ntmps13
    go_wp2_with fail
    refine (unhide HD).mono ?_; rintro e w1 ⟨o, l, rfl, ⟨hf0, hf1⟩, hl, hb⟩
    clear HD
    have hm : (str l).size ≤ 12 := by rw [str_size]; exact hl
    generalize str l = s at hm
    clear hl
    go_wp2_with fail
    refine (impl_BitsCode _ _ _ (by omega)).mono ?_; rintro e w2 ⟨rfl, rfl⟩
    go_wp2_with fail
    refine (spec_BitsCode _ _ _ (by omega)).mono ?_; rintro e w2 ⟨rfl, rfl⟩
    by_cases hk : Sx.bcOK o s = true
    · have HB1 := hide (Sx.cb_back hk).1
      have HB2 := hide (Sx.cb_back hk).2
      have HT1 := hide (Sx.bc_turn hk).1
      have HT2 := hide (Sx.bc_turn hk).2
      obtain ⟨n1, n2, n3⟩ := Sx.bc_need hk
      have ho := Sx.ord_of (Sx.bc_all hk).1
      have hw1 : IntKind.i64.wrap (1 - o) = 1 - o := IntWalk.i64_in _ (by omega)
      have hw2 : wrap64 (1 - o) = 1 - o := IntWalk.wrap64_in _ (by omega)
      have hz : (str s.data.toList.reverse).size ≤ 12 := by rw [str_size, List.length_reverse, Sx.len_bytes]; exact hm
      rw [hk]
      clear hk
      generalize Sx.bcN o s = N at HB1 HB2 HT2 n1 n2 n3
      have n4 : decide (Sx.needI N ≤ (s.size : Int)) = true := decide_eq_true n1
      go_wp2_with fail
      refine (impl_CodeBits _ _ _ _).mono ?_; rintro e w3 ⟨rfl, hb3⟩
      rw [HB1.out, HB2.out]
      have B3 := below_next (Nat.le_refl _) hb hb3
      clear HB1 HB2
      go_wp2_with fail
      refine (laws_soTurned _ _ (by omega)).mono ?_; rintro e w4 ⟨rfl, hb4⟩
      have B4 := below_next (Nat.le_refl _) B3 hb4
      generalize str s.data.toList.reverse = u at HT1 HT2 hz
      go_wp2_with fail
      refine (impl_BitsCode _ _ _ (by omega)).mono ?_; rintro e w5 ⟨rfl, rfl⟩
      rw [HT1.out, HT2.out]
      clear HT1 HT2
      go_wp2_with fail
      refine (impl_BitsNeeded _ _ (by omega) (by omega)).mono ?_; rintro e w5 ⟨rfl, rfl⟩
      go_wp2_with fail
      go_ret
      exact ⟨rfl, B4⟩
    · have hk : Sx.bcOK o s = false := by simpa using hk
      rw [hk]
      clear hk
      go_wp2_with fail
      go_ret
      exact ⟨rfl, hb⟩
  · clear h
    go_enter Try.func13, Try.ntmps13
    go_wp2_with fail
    go_ret
    exact ⟨rfl, Below.refl _ _⟩
end Go.Proofs.Ytkecappciglonaa

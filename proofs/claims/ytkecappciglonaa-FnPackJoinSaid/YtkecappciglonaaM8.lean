/- The walk of FnPadBits. Conditions: a slice of bytes. -/
import Derived.Test.YtkecappciglonaaDr7
import Derived.Test.YtkecappciglonaaM
import Derived.Test.YtkecappciglonaaB
import Derived.Test.YtkecappciglonaaPlw
namespace Go.Proofs.Ytkecappciglonaa
open Go.RowKit

theorem Sx.rep_snoc (k : Nat) : str (List.replicate k 48) ++ ({ data := #[48] } : ByteArray) = str (List.replicate (k + 1) 48) := by
  rw [show ({ data := #[48] } : ByteArray) = str [48] from rfl, str_append]
  congr 1
  induction k with
  | zero => rfl
  | succ k ih => rw [List.replicate_succ, List.cons_append, ih]; rfl

set_option maxRecDepth 100000 in
set_option maxHeartbeats 1000000 in
theorem laws_soZeros (n : Nat) (w : World) (hn : n ≤ 1000) :
    Calls Try.prog 62 #[.string { data := #[48] }, .int .i64 n] w fun e w' => e = .returned (.string (str (List.replicate n 48))) ∧ w = w' := by
  go_enter Try.func62, Try.ntmps62
  go_wp2_with fail
  go_loop [5, 6] (fun u i => ∃ k : Nat, k ≤ n ∧ u = .string (str (List.replicate k 48)) ∧ i = .int .i64 k) (fun _ i => n - (intOf i).toNat)
  case atStart => exact ⟨0, Nat.zero_le _, rfl, rfl⟩
  case round =>
    obtain ⟨k, hk, rfl, rfl⟩ := hrel
    have HS := hide (Sx.rep_snoc k)
    have hz : (str (List.replicate k 48)).size + ({ data := #[48] } : ByteArray).size ≤ 9223372036854775807 := by
      rw [str_size, List.length_replicate, show ({ data := #[48] } : ByteArray).size = 1 from rfl]; omega
    by_cases hlt : k < n
    · go_wp2_with fail
      go_round
      case rel => exact ⟨k + 1, by omega, vstr HS.out, by go_num⟩
      case measure => simp [intOf]; omega
    · have : k = n := by omega
      subst this
      go_wp2_with fail
      go_ret
      exact ⟨rfl, rfl⟩

theorem Sx.pad_valid {s : ByteArray} (h : Sx.bitsValid s = true) : Sx.bitsValid (str (Sx.padL s.data.toList)) = true := by
  have h1 := Sx.valid_len h
  have h2 := Sx.padL_all (Sx.valid_all h)
  simp only [Sx.bitsValid, Bool.and_eq_true, decide_eq_true_iff]
  exact ⟨by rw [str_size, Sx.padL_length, Sx.len_bytes]; omega, h2⟩

set_option maxRecDepth 100000 in
set_option maxHeartbeats 1000000 in
theorem law_FnPadBits (A : Option Addr) (n c : Nat) (w : World) (h : Src w w.heap.size A n) (hc : n ≤ c) (hcm : c ≤ maxLen) :
    Calls Try.prog 14 #[.slice A n c] w fun e w' => e = .returned (.bool true) ∧ Below w.heap.size w w' := by
  by_cases hn : n ≤ 1048576
  · have HD := hide (draw_PadBits A n c w h hn hc hcm)
    clear h
    go_enter Try.func14, Try.ntmps14
    go_wp2_with fail
    refine (unhide HD).mono ?_; rintro e w1 ⟨l, rfl, hl, hb⟩
    clear HD
    have hm : (str l).size ≤ 32001 := by rw [str_size]; exact hl
    generalize str l = s at hm
    clear hl
    by_cases hv : Sx.bitsValid s = true
    · have HV := hide hv
      have hs := Sx.valid_len hv
      have hl0 := Sx.len_bytes s
      have HV2 := hide (Sx.pad_valid hv)
      have HY2 := hide (show Sx.padS (str (Sx.padL s.data.toList)) = str (Sx.padL s.data.toList) by rw [Sx.pad_yes HV2.out]; exact congrArg str (Sx.pad_pad s.data.toList))
      have hz : (str (Sx.padL s.data.toList)).size = 8 * ((s.size + 7) / 8) := by rw [str_size, Sx.padL_length, hl0]
      have HC := hide (show str (Sx.padL s.data.toList) = s ++ str (List.replicate (8 * ((s.size + 7) / 8) - s.size) 48) by
        rw [show 8 * ((s.size + 7) / 8) - s.size = (8 - s.data.toList.length % 8) % 8 from by rw [hl0]; omega]
        exact (str_append s.data.toList _).symm)
      have HY := hide (Sx.pad_yes hv)
      generalize str (Sx.padL s.data.toList) = t at HV2 HY2 hz HC HY
      clear hv hl0
      go_wp2_with fail
      refine (impl_PadBits _ _ (by omega)).mono ?_; rintro e w2 ⟨rfl, hb2⟩
      rw [HV.out, HY.out]
      have B2 := below_next (Nat.le_refl _) hb hb2
      go_wp2_with fail
      refine (spec_PadBits _ _ (by omega)).mono ?_; rintro e w3 ⟨rfl, rfl⟩
      rw [HV.out, HY.out]
      go_wp2_with fail
      refine (impl_BitsValid _ _ (by omega)).mono ?_; rintro e w3 ⟨rfl, rfl⟩
      rw [HV.out]
      go_wp2_with fail
      refine (impl_PadBits _ _ (by omega)).mono ?_; rintro e w4 ⟨rfl, hb4⟩
      rw [HV2.out, HY2.out]
      have B4 := below_next (Nat.le_refl _) B2 hb4
      have h8 : ((t.size : Int).tmod 8 == 0) = true := by rw [Int.tmod_eq_emod_of_nonneg (Int.natCast_nonneg _), beq_iff_eq]; omega
      have h9 : ((t.size : Int) % 8 == 0) = true := by rw [beq_iff_eq]; omega
      have h7 : t.size < s.size + 8 := by omega
      have C := hide (laws_soZeros (8 * ((s.size + 7) / 8) - s.size) w4 (by omega))
      have hd : (t.size : Int) - (s.size : Int) = ((8 * ((s.size + 7) / 8) - s.size : Nat) : Int) := by omega
      have hq : s.size + (str (List.replicate (8 * ((s.size + 7) / 8) - s.size) 48)).size ≤ 9223372036854775807 := by rw [str_size, List.length_replicate]; omega
      clear hz
      go_wp2_with fail
      refine (unhide C).mono ?_; rintro e w5 ⟨rfl, rfl⟩
      clear C hd
      go_wp2_with fail
      rw [← HC.out]
      go_wp2_with fail
      go_ret
      exact ⟨ret_bool (beq_self_eq_true _), B4⟩
    · have hv : Sx.bitsValid s = false := by simpa using hv
      have HV := hide hv
      have HY := hide (Sx.pad_no hv)
      clear hv
      go_wp2_with fail
      refine (impl_PadBits _ _ (by omega)).mono ?_; rintro e w2 ⟨rfl, hb2⟩
      rw [HV.out, HY.out]
      have B2 := below_next (Nat.le_refl _) hb hb2
      go_wp2_with fail
      refine (spec_PadBits _ _ (by omega)).mono ?_; rintro e w3 ⟨rfl, rfl⟩
      rw [HV.out, HY.out]
      go_wp2_with fail
      refine (impl_BitsValid _ _ (by omega)).mono ?_; rintro e w3 ⟨rfl, rfl⟩
      rw [HV.out]
      go_wp2_with fail
      refine (impl_BitsValid _ _ (by omega)).mono ?_; rintro e w3 ⟨rfl, rfl⟩
      rw [HV.out]
      go_wp2_with fail
      go_ret
      exact ⟨rfl, B2⟩
  · clear h
    go_enter Try.func14, Try.ntmps14
    go_wp2_with fail
    go_ret
    exact ⟨rfl, Below.refl _ _⟩
end Go.Proofs.Ytkecappciglonaa

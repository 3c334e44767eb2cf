/- The walks of BitsValid. Conditions: a string that fits in memory. -/
import Derived.Test.YtogkpghomfihnaaBytes
import Derived.Test.YtogkpghomfihnaaRows
import Derived.Lib.Hide
namespace Go.Proofs.Ytogkpghomfihnaa
open Go.RowKit

set_option maxHeartbeats 400000 in
theorem spec_BitsValid (s : ByteArray) (w : World) (hs : s.size ≤ 9223372036854775807) :
    Calls Try.prog 25 #[.string s] w fun e w' => e = .returned (.bool (Sx.bitsValid s)) ∧ w = w' := by
  go_enter Try.func25, Try.ntmps25
  go_wp2
  go_loop [3] (fun i => ∃ k : Nat, k ≤ s.size ∧ i = .int .i64 k ∧ Hid ((s.data.toList.take k).all Sx.isBit = true)) (fun i => s.size - (intOf i).toNat)
  case atStart => exact ⟨0, Nat.zero_le _, rfl, rfl⟩
  case round =>
    obtain ⟨k, hk, rfl, hall⟩ := hrel
    by_cases hlt : k < s.size
    · by_cases h48 : s[k].toNat = 48
      · have t1 := Sx.byte_eq (b := s[k]) 48 (by omega)
        have H := hide (Sx.all_step hlt hall.out (Sx.isBit_yes (.inl h48)))
        clear h48
        go_wp2
        go_round
        case rel => exact ⟨k + 1, by omega, by go_num, H⟩
        case measure => simp [intOf]; omega
      · by_cases h49 : s[k].toNat = 49
        · have t1 := Sx.byte_ne (b := s[k]) 48 (by omega)
          have t2 := Sx.byte_eq (b := s[k]) 49 (by omega)
          have H := hide (Sx.all_step hlt hall.out (Sx.isBit_yes (.inr h49)))
          clear h49
          go_wp2
          go_round
          case rel => exact ⟨k + 1, by omega, by go_num, H⟩
          case measure => simp [intOf]; omega
        · have t1 := Sx.byte_ne (b := s[k]) 48 (by omega)
          have t2 := Sx.byte_ne (b := s[k]) 49 (by omega)
          have H := hide (Sx.bitsValid_bad (Sx.all_bad hlt (Sx.isBit_no h48 h49)))
          go_wp2
          go_ret
          exact ⟨ret_bool H.out.symm, rfl⟩
    · have H := hide (Sx.bitsValid_rest (Sx.all_done hlt hall.out))
      go_wp2
      all_goals
        go_ret
        exact ⟨ret_bool (by rw [H.out]; first | rfl | (simp; omega)), rfl⟩

set_option maxHeartbeats 400000 in
theorem impl_BitsValid (s : ByteArray) (w : World) (hs : s.size ≤ 9223372036854775807) :
    Calls Try.prog 26 #[.string s] w fun e w' => e = .returned (.bool (Sx.bitsValid s)) ∧ w = w' := by
  by_cases hm : s.size ≤ 32000
  · go_enter Try.func26, Try.ntmps26
    go_wp2
    go_loop [3, 9] (fun _ i => ∃ k : Nat, k ≤ s.size ∧ i = .int .i64 k ∧ Hid ((s.data.toList.take k).all Sx.isBit = true)) (fun _ i => s.size - (intOf i).toNat)
    case atStart => exact ⟨0, Nat.zero_le _, rfl, rfl⟩
    case round =>
      obtain ⟨k, hk, rfl, hall⟩ := hrel
      by_cases hlt : k < s.size
      · by_cases h48 : s[k].toNat = 48
        · have t1 := Sx.byte_eq (b := s[k]) 48 (by omega)
          have H := hide (Sx.all_step hlt hall.out (Sx.isBit_yes (.inl h48)))
          clear h48
          go_wp2
          go_round
          case rel => exact ⟨k + 1, by omega, by go_num, H⟩
          case measure => simp [intOf]; omega
        · by_cases h49 : s[k].toNat = 49
          · have t1 := Sx.byte_ne (b := s[k]) 48 (by omega)
            have t2 := Sx.byte_eq (b := s[k]) 49 (by omega)
            have H := hide (Sx.all_step hlt hall.out (Sx.isBit_yes (.inr h49)))
            clear h49
            go_wp2
            go_round
            case rel => exact ⟨k + 1, by omega, by go_num, H⟩
            case measure => simp [intOf]; omega
          · have t1 := Sx.byte_ne (b := s[k]) 48 (by omega)
            have t2 := Sx.byte_ne (b := s[k]) 49 (by omega)
            have H := hide (Sx.bitsValid_bad (Sx.all_bad hlt (Sx.isBit_no h48 h49)))
            go_wp2
            go_ret
            exact ⟨ret_bool H.out.symm, rfl⟩
      · have H := hide (Sx.bitsValid_rest (Sx.all_done hlt hall.out))
        go_wp2
        go_ret
        exact ⟨ret_bool (by rw [H.out]; simp; omega), rfl⟩
  · have H := hide (Sx.bitsValid_len hm)
    go_enter Try.func26, Try.ntmps26
    go_wp2
    go_ret
    exact ⟨ret_bool H.out.symm, rfl⟩

set_option maxHeartbeats 400000 in
theorem law_FnExactBitsValid (s : ByteArray) (hs : s.size ≤ maxLen) (w : World) :
    Calls Try.prog 5 #[.string s] w fun e w' => e = .returned (.bool true) ∧ Below w.heap.size w w' := by
  unfold maxLen at hs
  by_cases hm : s.size ≤ 1048576
  · go_enter Try.func5, Try.ntmps5
    go_wp2_with (first
      | (go_at_call 25; refine (spec_BitsValid _ _ hs).mono ?_; rintro e w2 ⟨rfl, rfl⟩)
      | (go_at_call 26; refine (impl_BitsValid _ _ hs).mono ?_; rintro e w3 ⟨rfl, rfl⟩))
    go_ret
    exact ⟨rfl, Below.refl _ _⟩
  · go_enter Try.func5, Try.ntmps5
    go_wp2_with fail
    go_ret
    exact ⟨rfl, Below.refl _ _⟩
end Go.Proofs.Ytogkpghomfihnaa

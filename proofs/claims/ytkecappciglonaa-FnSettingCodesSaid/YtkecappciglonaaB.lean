/- The walks of BitsValid. Conditions: a string that fits in memory. -/
import Derived.Test.YtkecappciglonaaBytes
import Derived.Test.YtkecappciglonaaRows
import Derived.Lib.Hide
namespace Go.Proofs.Ytkecappciglonaa
open Go.RowKit

set_option maxHeartbeats 400000 in
theorem spec_BitsValid (s : ByteArray) (w : World) (hs : s.size ≤ 9223372036854775807) :
    Calls Try.prog 100 #[.string s] w fun e w' => e = .returned (.bool (Sx.bitsValid s)) ∧ w = w' := by
  go_enter Try.func100, Try.ntmps100
  go_wp2
  go_loop [3] (fun i => ∃ k : Nat, k ≤ s.size ∧ i = .int .i64 k ∧ Hid ((s.data.toList.take k).all Sx.isBit = true)) (fun i => s.size - (intOf i).toNat)
  case atStart => exact ⟨0, Nat.zero_le _, rfl, rfl⟩
  case round =>
    obtain ⟨k, hk, rfl, hall⟩ := hrel
    by_cases hlt : k < s.size
    · by_cases h48 : s[k].toNat = 48
      · have t1 := Sx.byte_eq (b := s[k]) 48 (by omega)
        have H := hide (Sx.all_step hlt hall.out (Sx.isBit_yes (.inl h48)))
        clear h48
        go_wp2
        go_round
        case rel => exact ⟨k + 1, by omega, by go_num, H⟩
        case measure => simp [intOf]; omega
      · by_cases h49 : s[k].toNat = 49
        · have t1 := Sx.byte_ne (b := s[k]) 48 (by omega)
          have t2 := Sx.byte_eq (b := s[k]) 49 (by omega)
          have H := hide (Sx.all_step hlt hall.out (Sx.isBit_yes (.inr h49)))
          clear h49
          go_wp2
          go_round
          case rel => exact ⟨k + 1, by omega, by go_num, H⟩
          case measure => simp [intOf]; omega
        · have t1 := Sx.byte_ne (b := s[k]) 48 (by omega)
          have t2 := Sx.byte_ne (b := s[k]) 49 (by omega)
          have H := hide (Sx.bitsValid_bad (Sx.all_bad hlt (Sx.isBit_no h48 h49)))
          go_wp2
          go_ret
          exact ⟨ret_bool H.out.symm, rfl⟩
    · have H := hide (Sx.bitsValid_rest (Sx.all_done hlt hall.out))
      go_wp2
      all_goals
        go_ret
        exact ⟨ret_bool (by rw [H.out]; first | rfl | (simp; omega)), rfl⟩

set_option maxHeartbeats 400000 in
theorem impl_BitsValid (s : ByteArray) (w : World) (hs : s.size ≤ 9223372036854775807) :
    Calls Try.prog 28 #[.string s] w fun e w' => e = .returned (.bool (Sx.bitsValid s)) ∧ w = w' := by
  by_cases hm : s.size ≤ 32000
  · go_enter Try.func28, Try.ntmps28
    go_wp2
    go_loop [3, 9] (fun _ i => ∃ k : Nat, k ≤ s.size ∧ i = .int .i64 k ∧ Hid ((s.data.toList.take k).all Sx.isBit = true)) (fun _ i => s.size - (intOf i).toNat)
    case atStart => exact ⟨0, Nat.zero_le _, rfl, rfl⟩
    case round =>
      obtain ⟨k, hk, rfl, hall⟩ := hrel
      by_cases hlt : k < s.size
      · by_cases h48 : s[k].toNat = 48
        · have t1 := Sx.byte_eq (b := s[k]) 48 (by omega)
          have H := hide (Sx.all_step hlt hall.out (Sx.isBit_yes (.inl h48)))
          clear h48
          go_wp2
          go_round
          case rel => exact ⟨k + 1, by omega, by go_num, H⟩
          case measure => simp [intOf]; omega
        · by_cases h49 : s[k].toNat = 49
          · have t1 := Sx.byte_ne (b := s[k]) 48 (by omega)
            have t2 := Sx.byte_eq (b := s[k]) 49 (by omega)
            have H := hide (Sx.all_step hlt hall.out (Sx.isBit_yes (.inr h49)))
            clear h49
            go_wp2
            go_round
            case rel => exact ⟨k + 1, by omega, by go_num, H⟩
            case measure => simp [intOf]; omega
          · have t1 := Sx.byte_ne (b := s[k]) 48 (by omega)
            have t2 := Sx.byte_ne (b := s[k]) 49 (by omega)
            have H := hide (Sx.bitsValid_bad (Sx.all_bad hlt (Sx.isBit_no h48 h49)))
            go_wp2
            go_ret
            exact ⟨ret_bool H.out.symm, rfl⟩
      · have H := hide (Sx.bitsValid_rest (Sx.all_done hlt hall.out))
        go_wp2
        go_ret
        exact ⟨ret_bool (by rw [H.out]; simp; omega), rfl⟩
  · have H := hide (Sx.bitsValid_len hm)
    go_enter Try.func28, Try.ntmps28
    go_wp2
    go_ret
    exact ⟨ret_bool H.out.symm, rfl⟩

end Go.Proofs.Ytkecappciglonaa

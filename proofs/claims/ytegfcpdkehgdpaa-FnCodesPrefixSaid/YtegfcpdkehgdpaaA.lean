/- The walks of the functions on single numbers: BitsNeeded, settings. Conditions: each argument is an int. -/
import Derived.Test.YtegfcpdkehgdpaaPlain
import Derived.Test.YtegfcpdkehgdpaaKit
import Derived.Test.YtegfcpdkehgdpaaShelf
import Derived.Test.YtegfcpdkehgdpaaRows
import Derived.WalkKit
import Derived.WalkSpells
import Derived.Lib.Hide
namespace Go.Proofs.Ytegfcpdkehgdpaa
open Go.RowKit

set_option maxHeartbeats 400000 in
theorem spec_l1Needed (n : Nat) (w : World) (hn : n ≤ 9223372036854775807) :
    Calls Try.prog 110 #[.int .i64 n] w fun e w' => e = .returned (.int .i64 (Sx.need n)) ∧ w = w' := by
  go_enter Try.func110, Try.ntmps110
  go_wp2
  go_loop [0, 3] (fun m k => ∃ a b : Nat, m = .int .i64 a ∧ k = .int .i64 b ∧ a ≤ 9223372036854775807 ∧ 1 ≤ b ∧ b + Sx.need a ≤ 66 ∧ b + Sx.need a = Sx.need n + 1) (fun m _ => (intOf m).toNat)
  case atStart => exact ⟨n, 1, rfl, rfl, hn, by omega, by have := Sx.need_le64 (n := n) (by omega); omega, by omega⟩
  case round =>
    obtain ⟨a, b, rfl, rfl, ha, hb, hs, he⟩ := hrel
    have HE := Lib.hid he
    clear he
    by_cases h : 1 < a
    · have h2 := Sx.need_half (n := a) (by omega)
      have H2 := Lib.hid h2
      clear h2
      have hp := Sx.need_pos a
      go_wp2
      go_round
      case rel =>
        have := H2.out; have := HE.out
        exact ⟨a / 2, b + 1, by go_num, by go_num, by omega, by omega, by omega, by omega⟩
      case measure => simp [intOf]; omega
    · have h2 := Lib.hid (Sx.need_small (n := a) (by omega))
      go_wp2
      go_ret
      have := h2.out; have := HE.out
      exact ⟨ret_int (by omega), rfl⟩

set_option maxHeartbeats 400000 in
theorem impl_BitsNeeded (n : Int) (w : World) (h1 : -9223372036854775808 ≤ n) (hn : n ≤ 9223372036854775807) :
    Calls Try.prog 53 #[.int .i64 n] w fun e w' => e = .returned (.int .i64 (Sx.needI n)) ∧ w = w' := by
  by_cases h : n < 0
  · rw [show Sx.needI n = -1 from if_pos h]
    go_enter Try.func53, Try.ntmps53
    go_wp2_with fail
    go_ret
    exact ⟨rfl, rfl⟩
  · rw [show Sx.needI n = (Sx.need n.toNat : Int) from if_neg h]
    obtain ⟨m, rfl⟩ := Int.eq_ofNat_of_zero_le (by omega : 0 ≤ n)
    rw [Int.toNat_natCast]
    have hb := hide (Sx.bitLen_need 64 m (by omega) (by omega))
    have hb1 : Lib.bitLen m ≤ 64 := by have := hb.out; have := Sx.need_le64 (n := m) (by omega); omega
    go_enter Try.func53, Try.ntmps53
    go_wp2_with (go_at_call 94; refine (Try.bits_Len _ _ (by omega) (by omega)).mono ?_; rintro e w' ⟨rfl, rfl⟩)
    go_ret
    exact ⟨ret_int (by have := hb.out; omega), rfl⟩
end Go.Proofs.Ytegfcpdkehgdpaa

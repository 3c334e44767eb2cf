/- The walks of the exact laws on hexadecimal digits. Conditions: each argument is a value of its type. -/
import Derived.Test.YtogkpghomfihnaaQ
import Derived.Test.YtogkpghomfihnaaS
namespace Go.Proofs.Ytogkpghomfihnaa
open Go.RowKit

set_option maxHeartbeats 1000000 in
theorem law_FnExactFormatHex (s0 : ByteArray) (hs0 : s0.size ≤ maxLen) (w : World) :
    Calls Try.prog 6 #[.string s0] w fun e w' => e = .returned (.bool true) ∧ Below w.heap.size w w' := by
  unfold maxLen at hs0
  by_cases hm0 : s0.size ≤ 1048576
  · skip
    go_enter Try.func6, Try.ntmps6
    have C0 := Below.refl w.heap.size w
    have hB := Nat.le_refl w.heap.size
    go_wp2_with fail
    refine (spec_FormatHex _ _ hm0).mono ?_; rintro e w1 ⟨rfl, hb1⟩
    have C1 := below_next hB C0 hb1
    go_wp2_with fail
    refine (impl_FormatHex _ _ hs0).mono ?_; rintro e w2 ⟨rfl, hb2⟩
    have C2 := below_next hB C1 hb2
    go_wp2_with fail
    go_ret
    exact ⟨rfl, C2⟩
  · go_enter Try.func6, Try.ntmps6
    go_wp2_with fail
    go_ret
    exact ⟨rfl, Below.refl _ _⟩

set_option maxHeartbeats 1000000 in
theorem law_FnExactParseHex (s0 : ByteArray) (hs0 : s0.size ≤ maxLen) (w : World) :
    Calls Try.prog 11 #[.string s0] w fun e w' => e = .returned (.bool true) ∧ Below w.heap.size w w' := by
  unfold maxLen at hs0
  by_cases hm0 : s0.size ≤ 1048576
  · skip
    go_enter Try.func11, Try.ntmps11
    have C0 := Below.refl w.heap.size w
    have hB := Nat.le_refl w.heap.size
    go_wp2_with fail
    refine (spec_ParseHex _ _ hm0).mono ?_; rintro e w1 ⟨rfl, hb1⟩
    have C1 := below_next hB C0 hb1
    go_wp2_with fail
    refine (impl_ParseHex _ _ hs0).mono ?_; rintro e w2 ⟨rfl, hb2⟩
    have C2 := below_next hB C1 hb2
    go_wp2_with fail
    go_ret
    exact ⟨rfl, C2⟩
  · go_enter Try.func11, Try.ntmps11
    go_wp2_with fail
    go_ret
    exact ⟨rfl, Below.refl _ _⟩

end Go.Proofs.Ytogkpghomfihnaa

/- The walks of the exact laws on packed bits and turned bytes. Conditions: each argument is a value of its type. -/
import Derived.Test.YtogkpghomfihnaaO
namespace Go.Proofs.Ytogkpghomfihnaa
open Go.RowKit

set_option maxHeartbeats 1000000 in
theorem law_FnExactPackBits (x0 : Int) (_hx0 : -9223372036854775808 ≤ x0) (_hy0 : x0 ≤ 9223372036854775807) (s1 : ByteArray) (hs1 : s1.size ≤ maxLen) (w : World) :
    Calls Try.prog 19 #[.int .i64 x0, .string s1] w fun e w' => e = .returned (.bool true) ∧ Below w.heap.size w w' := by
  unfold maxLen at hs1
  by_cases hm1 : s1.size ≤ 1048576
  · skip
    go_enter Try.func19, Try.ntmps19
    have C0 := Below.refl w.heap.size w
    have hB := Nat.le_refl w.heap.size
    go_wp2_with fail
    refine (spec_PackBits _ _ _ hs1).mono ?_; rintro e w1 ⟨rfl, hb1⟩
    have C1 := below_next hB C0 hb1
    go_wp2_with fail
    refine (impl_PackBits _ _ _ hs1).mono ?_; rintro e w2 ⟨rfl, hb2⟩
    have C2 := below_next hB C1 hb2
    go_wp2_with fail
    go_ret
    exact ⟨rfl, C2⟩
  · go_enter Try.func19, Try.ntmps19
    go_wp2_with fail
    go_ret
    exact ⟨rfl, Below.refl _ _⟩

set_option maxHeartbeats 1000000 in
theorem law_FnExactPadBits (s0 : ByteArray) (hs0 : s0.size ≤ maxLen) (w : World) :
    Calls Try.prog 21 #[.string s0] w fun e w' => e = .returned (.bool true) ∧ Below w.heap.size w w' := by
  unfold maxLen at hs0
  by_cases hm0 : s0.size ≤ 1048576
  · skip
    go_enter Try.func21, Try.ntmps21
    have C0 := Below.refl w.heap.size w
    have hB := Nat.le_refl w.heap.size
    go_wp2_with fail
    refine (spec_PadBits _ _ hs0).mono ?_; rintro e w1 ⟨rfl, rfl⟩
    go_wp2_with fail
    refine (impl_PadBits _ _ hs0).mono ?_; rintro e w1 ⟨rfl, hb1⟩
    have C1 := below_next hB C0 hb1
    go_wp2_with fail
    go_ret
    exact ⟨rfl, C1⟩
  · go_enter Try.func21, Try.ntmps21
    go_wp2_with fail
    go_ret
    exact ⟨rfl, Below.refl _ _⟩

set_option maxHeartbeats 1000000 in
theorem law_FnExactTurnBytes (s0 : ByteArray) (hs0 : s0.size ≤ maxLen) (w : World) :
    Calls Try.prog 18 #[.string s0] w fun e w' => e = .returned (.bool true) ∧ Below w.heap.size w w' := by
  unfold maxLen at hs0
  by_cases hm0 : s0.size ≤ 1048576
  · skip
    go_enter Try.func18, Try.ntmps18
    have C0 := Below.refl w.heap.size w
    have hB := Nat.le_refl w.heap.size
    go_wp2_with fail
    refine (spec_TurnBytes _ _ hs0).mono ?_; rintro e w1 ⟨rfl, hb1⟩
    have C1 := below_next hB C0 hb1
    go_wp2_with fail
    refine (impl_TurnBytes _ _ hs0).mono ?_; rintro e w2 ⟨rfl, hb2⟩
    have C2 := below_next hB C1 hb2
    go_wp2_with fail
    go_ret
    exact ⟨rfl, C2⟩
  · go_enter Try.func18, Try.ntmps18
    go_wp2_with fail
    go_ret
    exact ⟨rfl, Below.refl _ _⟩

end Go.Proofs.Ytogkpghomfihnaa

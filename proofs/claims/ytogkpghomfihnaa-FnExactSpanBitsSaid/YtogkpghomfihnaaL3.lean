/- The walks of the exact laws on codes' bits and streams. Conditions: each argument is a value of its type. -/
import Derived.Test.YtogkpghomfihnaaI
import Derived.Test.YtogkpghomfihnaaG
namespace Go.Proofs.Ytogkpghomfihnaa
open Go.RowKit

set_option maxHeartbeats 1000000 in
theorem law_FnExactCodeBits (x0 : Int) (_hx0 : -9223372036854775808 ≤ x0) (_hy0 : x0 ≤ 9223372036854775807) (x1 : Int) (_hx1 : -9223372036854775808 ≤ x1) (_hy1 : x1 ≤ 9223372036854775807) (x2 : Int) (_hx2 : -9223372036854775808 ≤ x2) (_hy2 : x2 ≤ 9223372036854775807) (w : World) :
    Calls Try.prog 12 #[.int .i64 x0, .int .i64 x1, .int .i64 x2] w fun e w' => e = .returned (.bool true) ∧ Below w.heap.size w w' := by
  go_enter Try.func12, Try.ntmps12
  have C0 := Below.refl w.heap.size w
  have hB := Nat.le_refl w.heap.size
  go_wp2_with fail
  refine (spec_CodeBits _ _ _ _ ).mono ?_; rintro e w1 ⟨rfl, hb1⟩
  have C1 := below_next hB C0 hb1
  go_wp2_with fail
  refine (impl_CodeBits _ _ _ _ ).mono ?_; rintro e w2 ⟨rfl, hb2⟩
  have C2 := below_next hB C1 hb2
  go_wp2_with fail
  go_ret
  exact ⟨rfl, C2⟩

set_option maxHeartbeats 1000000 in
theorem law_FnExactBitsCode (x0 : Int) (_hx0 : -9223372036854775808 ≤ x0) (_hy0 : x0 ≤ 9223372036854775807) (s1 : ByteArray) (hs1 : s1.size ≤ maxLen) (w : World) :
    Calls Try.prog 16 #[.int .i64 x0, .string s1] w fun e w' => e = .returned (.bool true) ∧ Below w.heap.size w w' := by
  unfold maxLen at hs1
  by_cases hm1 : s1.size ≤ 1048576
  · skip
    go_enter Try.func16, Try.ntmps16
    have C0 := Below.refl w.heap.size w
    have hB := Nat.le_refl w.heap.size
    go_wp2_with fail
    refine (spec_BitsCode _ _ _ hs1).mono ?_; rintro e w1 ⟨rfl, rfl⟩
    go_wp2_with fail
    refine (impl_BitsCode _ _ _ hs1).mono ?_; rintro e w1 ⟨rfl, rfl⟩
    go_wp2_with fail
    go_ret
    exact ⟨rfl, C0⟩
  · go_enter Try.func16, Try.ntmps16
    go_wp2_with fail
    go_ret
    exact ⟨rfl, Below.refl _ _⟩

set_option maxHeartbeats 1000000 in
theorem law_FnExactReverseBits (x0 : Int) (_hx0 : -9223372036854775808 ≤ x0) (_hy0 : x0 ≤ 9223372036854775807) (x1 : Int) (_hx1 : -9223372036854775808 ≤ x1) (_hy1 : x1 ≤ 9223372036854775807) (w : World) :
    Calls Try.prog 20 #[.int .i64 x0, .int .i64 x1] w fun e w' => e = .returned (.bool true) ∧ Below w.heap.size w w' := by
  go_enter Try.func20, Try.ntmps20
  have C0 := Below.refl w.heap.size w
  have hB := Nat.le_refl w.heap.size
  go_wp2_with fail
  refine (spec_ReverseBits _ _ _ ).mono ?_; rintro e w1 ⟨rfl, hb1⟩
  have C1 := below_next hB C0 hb1
  go_wp2_with fail
  refine (impl_ReverseBits _ _ _ ).mono ?_; rintro e w2 ⟨rfl, hb2⟩
  have C2 := below_next hB C1 hb2
  go_wp2_with fail
  go_ret
  exact ⟨rfl, C2⟩

set_option maxHeartbeats 1000000 in
theorem law_FnExactUnpackBits (x0 : Int) (_hx0 : -9223372036854775808 ≤ x0) (_hy0 : x0 ≤ 9223372036854775807) (s1 : ByteArray) (hs1 : s1.size ≤ maxLen) (w : World) :
    Calls Try.prog 15 #[.int .i64 x0, .string s1] w fun e w' => e = .returned (.bool true) ∧ Below w.heap.size w w' := by
  unfold maxLen at hs1
  by_cases hm1 : s1.size ≤ 1048576
  · skip
    go_enter Try.func15, Try.ntmps15
    have C0 := Below.refl w.heap.size w
    have hB := Nat.le_refl w.heap.size
    go_wp2_with fail
    refine (spec_UnpackBits _ _ _ hs1).mono ?_; rintro e w1 ⟨rfl, hb1⟩
    have C1 := below_next hB C0 hb1
    go_wp2_with fail
    refine (impl_UnpackBits _ _ _ hs1).mono ?_; rintro e w2 ⟨rfl, hb2⟩
    have C2 := below_next hB C1 hb2
    go_wp2_with fail
    go_ret
    exact ⟨rfl, C2⟩
  · go_enter Try.func15, Try.ntmps15
    go_wp2_with fail
    go_ret
    exact ⟨rfl, Below.refl _ _⟩

set_option maxHeartbeats 1000000 in
theorem law_FnExactBitAt (x0 : Int) (_hx0 : -9223372036854775808 ≤ x0) (_hy0 : x0 ≤ 9223372036854775807) (s1 : ByteArray) (hs1 : s1.size ≤ maxLen) (x2 : Int) (_hx2 : -9223372036854775808 ≤ x2) (_hy2 : x2 ≤ 9223372036854775807) (w : World) :
    Calls Try.prog 14 #[.int .i64 x0, .string s1, .int .i64 x2] w fun e w' => e = .returned (.bool true) ∧ Below w.heap.size w w' := by
  unfold maxLen at hs1
  by_cases hm1 : s1.size ≤ 1048576
  · skip
    go_enter Try.func14, Try.ntmps14
    have C0 := Below.refl w.heap.size w
    have hB := Nat.le_refl w.heap.size
    go_wp2_with fail
    refine (spec_BitAt _ _ _ _ hm1).mono ?_; rintro e w1 ⟨rfl, hb1⟩
    have C1 := below_next hB C0 hb1
    go_wp2_with fail
    refine (impl_BitAt _ _ _ _ hs1).mono ?_; rintro e w2 ⟨rfl, hb2⟩
    have C2 := below_next hB C1 hb2
    go_wp2_with fail
    go_ret
    exact ⟨rfl, C2⟩
  · go_enter Try.func14, Try.ntmps14
    go_wp2_with fail
    go_ret
    exact ⟨rfl, Below.refl _ _⟩

set_option maxHeartbeats 1000000 in
theorem law_FnExactSpanBits (x0 : Int) (_hx0 : -9223372036854775808 ≤ x0) (_hy0 : x0 ≤ 9223372036854775807) (s1 : ByteArray) (hs1 : s1.size ≤ maxLen) (x2 : Int) (_hx2 : -9223372036854775808 ≤ x2) (_hy2 : x2 ≤ 9223372036854775807) (x3 : Int) (_hx3 : -9223372036854775808 ≤ x3) (_hy3 : x3 ≤ 9223372036854775807) (w : World) :
    Calls Try.prog 17 #[.int .i64 x0, .string s1, .int .i64 x2, .int .i64 x3] w fun e w' => e = .returned (.bool true) ∧ Below w.heap.size w w' := by
  unfold maxLen at hs1
  by_cases hm1 : s1.size ≤ 1048576
  · skip
    go_enter Try.func17, Try.ntmps17
    have C0 := Below.refl w.heap.size w
    have hB := Nat.le_refl w.heap.size
    go_wp2_with fail
    refine (spec_SpanBits _ _ _ _ _ hm1).mono ?_; rintro e w1 ⟨rfl, hb1⟩
    have C1 := below_next hB C0 hb1
    go_wp2_with fail
    refine (impl_SpanBits _ _ _ _ _ hs1).mono ?_; rintro e w2 ⟨rfl, hb2⟩
    have C2 := below_next hB C1 hb2
    go_wp2_with fail
    go_ret
    exact ⟨rfl, C2⟩
  · go_enter Try.func17, Try.ntmps17
    go_wp2_with fail
    go_ret
    exact ⟨rfl, Below.refl _ _⟩

end Go.Proofs.Ytogkpghomfihnaa

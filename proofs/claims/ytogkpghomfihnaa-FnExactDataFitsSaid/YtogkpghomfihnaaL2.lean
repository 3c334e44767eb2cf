/- The walks of the exact laws on codes and data that fits. Conditions: each argument is a value of its type. -/
import Derived.Test.YtogkpghomfihnaaD
namespace Go.Proofs.Ytogkpghomfihnaa
open Go.RowKit

set_option maxHeartbeats 1000000 in
theorem law_FnExactClearCode (o l m : Int) (_ho : -9223372036854775808 ≤ o ∧ o ≤ 9223372036854775807) (_hl : -9223372036854775808 ≤ l ∧ l ≤ 9223372036854775807) (_hm : -9223372036854775808 ≤ m ∧ m ≤ 9223372036854775807) (w : World) :
    Calls Try.prog 7 #[sv o l m] w fun e w' => e = .returned (.bool true) ∧ Below w.heap.size w w' := by
  go_enter Try.func7, Try.ntmps7
  have C0 := Below.refl (w.heap.size + 1) (w.alloc (.cells #[.int .i64 o, .int .i64 l, .int .i64 m] 24))
  have hB := box_size w (.cells #[.int .i64 o, .int .i64 l, .int .i64 m] 24)
  go_wp2_with fail
  refine (laws_toSetting _ _ _ _).mono ?_; rintro e w1 ⟨rfl, hb1⟩
  have C1 := below_next hB C0 hb1
  have hc1 := keepCell C1 (g := w.heap.size) (by omega)
  go_wp2_with fail
  refine (spec_ClearCode _ _ _ _ ).mono ?_; rintro e w2 ⟨rfl, hb2⟩
  have C2 := below_next hB C1 hb2
  have hc2 := keepCell C2 (g := w.heap.size) (by omega)
  clear hc1
  go_wp2_with fail
  refine (laws_toSetting _ _ _ _).mono ?_; rintro e w3 ⟨rfl, hb3⟩
  have C3 := below_next hB C2 hb3
  go_wp2_with fail
  refine (impl_ClearCode _ _ _ _ ).mono ?_; rintro e w4 ⟨rfl, hb4⟩
  have C4 := below_next hB C3 hb4
  go_wp2_with fail
  go_ret
  exact ⟨rfl, below_box C4⟩

set_option maxHeartbeats 1000000 in
theorem law_FnExactEndCode (o l m : Int) (_ho : -9223372036854775808 ≤ o ∧ o ≤ 9223372036854775807) (_hl : -9223372036854775808 ≤ l ∧ l ≤ 9223372036854775807) (_hm : -9223372036854775808 ≤ m ∧ m ≤ 9223372036854775807) (w : World) :
    Calls Try.prog 8 #[sv o l m] w fun e w' => e = .returned (.bool true) ∧ Below w.heap.size w w' := by
  go_enter Try.func8, Try.ntmps8
  have C0 := Below.refl (w.heap.size + 1) (w.alloc (.cells #[.int .i64 o, .int .i64 l, .int .i64 m] 24))
  have hB := box_size w (.cells #[.int .i64 o, .int .i64 l, .int .i64 m] 24)
  go_wp2_with fail
  refine (laws_toSetting _ _ _ _).mono ?_; rintro e w1 ⟨rfl, hb1⟩
  have C1 := below_next hB C0 hb1
  have hc1 := keepCell C1 (g := w.heap.size) (by omega)
  go_wp2_with fail
  refine (spec_EndCode _ _ _ _ ).mono ?_; rintro e w2 ⟨rfl, hb2⟩
  have C2 := below_next hB C1 hb2
  have hc2 := keepCell C2 (g := w.heap.size) (by omega)
  clear hc1
  go_wp2_with fail
  refine (laws_toSetting _ _ _ _).mono ?_; rintro e w3 ⟨rfl, hb3⟩
  have C3 := below_next hB C2 hb3
  go_wp2_with fail
  refine (impl_EndCode _ _ _ _ ).mono ?_; rintro e w4 ⟨rfl, hb4⟩
  have C4 := below_next hB C3 hb4
  go_wp2_with fail
  go_ret
  exact ⟨rfl, below_box C4⟩

set_option maxHeartbeats 1000000 in
theorem law_FnExactLastCode (o l m : Int) (_ho : -9223372036854775808 ≤ o ∧ o ≤ 9223372036854775807) (_hl : -9223372036854775808 ≤ l ∧ l ≤ 9223372036854775807) (_hm : -9223372036854775808 ≤ m ∧ m ≤ 9223372036854775807) (w : World) :
    Calls Try.prog 9 #[sv o l m] w fun e w' => e = .returned (.bool true) ∧ Below w.heap.size w w' := by
  go_enter Try.func9, Try.ntmps9
  have C0 := Below.refl (w.heap.size + 1) (w.alloc (.cells #[.int .i64 o, .int .i64 l, .int .i64 m] 24))
  have hB := box_size w (.cells #[.int .i64 o, .int .i64 l, .int .i64 m] 24)
  go_wp2_with fail
  refine (laws_toSetting _ _ _ _).mono ?_; rintro e w1 ⟨rfl, hb1⟩
  have C1 := below_next hB C0 hb1
  have hc1 := keepCell C1 (g := w.heap.size) (by omega)
  go_wp2_with fail
  refine (spec_LastCode _ _ _ _ ).mono ?_; rintro e w2 ⟨rfl, hb2⟩
  have C2 := below_next hB C1 hb2
  have hc2 := keepCell C2 (g := w.heap.size) (by omega)
  clear hc1
  go_wp2_with fail
  refine (laws_toSetting _ _ _ _).mono ?_; rintro e w3 ⟨rfl, hb3⟩
  have C3 := below_next hB C2 hb3
  go_wp2_with fail
  refine (impl_LastCode _ _ _ _ ).mono ?_; rintro e w4 ⟨rfl, hb4⟩
  have C4 := below_next hB C3 hb4
  go_wp2_with fail
  go_ret
  exact ⟨rfl, below_box C4⟩

set_option maxHeartbeats 1000000 in
theorem law_FnExactDataFits (o l m : Int) (_ho : -9223372036854775808 ≤ o ∧ o ≤ 9223372036854775807) (_hl : -9223372036854775808 ≤ l ∧ l ≤ 9223372036854775807) (_hm : -9223372036854775808 ≤ m ∧ m ≤ 9223372036854775807) (s1 : ByteArray) (hs1 : s1.size ≤ maxLen) (w : World) :
    Calls Try.prog 10 #[sv o l m, .string s1] w fun e w' => e = .returned (.bool true) ∧ Below w.heap.size w w' := by
  unfold maxLen at hs1
  by_cases hm1 : s1.size ≤ 1048576
  · skip
    go_enter Try.func10, Try.ntmps10
    have C0 := Below.refl (w.heap.size + 1) (w.alloc (.cells #[.int .i64 o, .int .i64 l, .int .i64 m] 24))
    have hB := box_size w (.cells #[.int .i64 o, .int .i64 l, .int .i64 m] 24)
    go_wp2_with fail
    refine (laws_toSetting _ _ _ _).mono ?_; rintro e w1 ⟨rfl, hb1⟩
    have C1 := below_next hB C0 hb1
    have hc1 := keepCell C1 (g := w.heap.size) (by omega)
    go_wp2_with fail
    refine (spec_DataFits _ _ _ _ _ hs1).mono ?_; rintro e w2 ⟨rfl, hb2⟩
    have C2 := below_next hB C1 hb2
    have hc2 := keepCell C2 (g := w.heap.size) (by omega)
    clear hc1
    go_wp2_with fail
    refine (laws_toSetting _ _ _ _).mono ?_; rintro e w3 ⟨rfl, hb3⟩
    have C3 := below_next hB C2 hb3
    go_wp2_with fail
    refine (impl_DataFits _ _ _ _ _ hs1).mono ?_; rintro e w4 ⟨rfl, hb4⟩
    have C4 := below_next hB C3 hb4
    go_wp2_with fail
    go_ret
    exact ⟨rfl, below_box C4⟩
  · go_enter Try.func10, Try.ntmps10
    go_wp2_with fail
    go_ret
    exact ⟨rfl, (Below.refl _ _).alloc (Nat.le_refl _) _⟩

end Go.Proofs.Ytogkpghomfihnaa

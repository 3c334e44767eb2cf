/- The walk of the exact law on FormatSetting. Conditions: none. -/
import Derived.Test.YthdmnpjdpfeleaaDoorFt
import Derived.Test.YthdmnpjdpfeleaaDoorT
namespace Go.Proofs.YthdmnpjdpfeleaaDoor
open Go.RowKit

set_option maxRecDepth 100000 in
set_option maxHeartbeats 1000000 in
theorem law_FnExactFormatSetting (o l m : Int) (_ho : -9223372036854775808 ≤ o ∧ o ≤ 9223372036854775807) (_hl : -9223372036854775808 ≤ l ∧ l ≤ 9223372036854775807) (_hm : -9223372036854775808 ≤ m ∧ m ≤ 9223372036854775807) (w : World) :
    Calls Tryd.prog 4 #[sv o l m] w fun e w' => e = .returned (.bool true) ∧ Below w.heap.size w w' := by
  go_enter Tryd.func4, Tryd.ntmps4
  go_wp2_with fail
  refine (laws_toSetting _ _ _ _).mono ?_; rintro e w1 ⟨rfl, hb1⟩
  have hz1 := size_of_alloc hb1
  have hc1 := keepCell hb1 (g := w.heap.size) (by simp)
  go_wp2_with fail
  refine (spec_FormatSetting _ _ _ _).mono ?_; rintro e w2 ⟨rfl, hb2⟩
  have hz2 := size_of_below hz1 hb2
  have hc2 := keepCell hb2 (g := w.heap.size) (by omega)
  go_wp2_with fail
  refine (laws_toSetting _ _ _ _).mono ?_; rintro e w3 ⟨rfl, hb3⟩
  go_wp2_with fail
  refine (impl_FormatSetting _ _ _ _).mono ?_; rintro e w4 ⟨rfl, hb4⟩
  go_wp2_with fail
  go_ret
  exact ⟨rfl, ((((Below.refl _ _).alloc (Nat.le_refl _) _).trans (hb1.mono (by simp))).trans (hb2.mono (by omega))).trans ((hb3.mono (by omega)).trans (hb4.mono (by have := hb3.size; omega)))⟩
end Go.Proofs.YthdmnpjdpfeleaaDoor

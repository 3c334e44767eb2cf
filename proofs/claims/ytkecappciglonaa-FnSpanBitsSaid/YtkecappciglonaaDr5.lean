/- The walks of the drawn inputs of SpanBits. Conditions: a slice of at most 1048576 bytes. -/
import Derived.Test.YtkecappciglonaaDr4
namespace Go.Proofs.Ytkecappciglonaa
open Go.RowKit

theorem results_four {fn : Func} {t u v x : Tmp} (h : fn.results = #[.tmp t, .tmp u, .tmp v, .tmp x]) (tmps : Array Value) (P : Program) (w : World) :
    (results fn tmps).run P w = .ok (.tuple #[tmps.getD t undef, tmps.getD u undef, tmps.getD v undef, tmps.getD x undef]) w := by
  simp [results, h]
set_option maxRecDepth 100000 in
set_option maxHeartbeats 1000000 in
theorem draw_SpanBits (A : Option Addr) (n c : Nat) (w : World) (h : Src w w.heap.size A n) (hn : n ≤ 1048576) (hc : n ≤ c) (hcm : c ≤ maxLen) :
    Calls Try.prog 30 #[.slice A n c] w (DrawISII 6 w) := by
  have hcm' := hcm
  unfold maxLen at hcm
  have HO := hide (rd_open A n c w h hn hc hcm)
  go_enter Try.func30, Try.ntmps30
  go_wp2_with fail
  refine (unhide HO).mono ?_; rintro e w1 ⟨g, rfl, hr1, hb1⟩
  clear HO
  have C := hide (draw_BitAt A n c w1 (h.next hb1) hn hc hcm')
  clear h
  go_wp2_with fail
  refine (unhide C).mono ?_; rintro e w2 ⟨o, l, a, rfl, ho, hl, ha, hb2⟩
  clear C
  have hr2 := hr1.below hb2
  have hb2 := below_next (Nat.le_refl _) hb1 hb2
  clear hb1 hr1
  go_wp2_with fail
  refine (rd_pick _ g 0 30 w2 hr2 (by omega) (by omega) (by omega)).mono ?_; rintro e w3 ⟨v, rfl, v0, v1, _, hr3, hg3⟩
  have v2 := v1 (by omega)
  clear v1
  have hb3 := draw_next (Nat.le_refl _) hb2 hr2 hg3
  clear hb2 hr2 hg3
  go_wp2_with fail
  refine (rd_pick _ g 1 20 w3 hr3 (by omega) (by omega) (by omega)).mono ?_; rintro e w4 ⟨z, rfl, z0, z1, _, hr4, hg4⟩
  have hb4 := draw_next (Nat.le_refl _) hb3 hr3 hg4
  clear hb3 hr3 hg4 z1
  by_cases h0 : z = 0
  · subst h0
    clear z0
    go_wp2_with fail
    refine (num_list [-1, 9223372036854775807, -9223372036854775808] 3 hr4 (by omega) (by decide) (by decide) (Q := Fits) (by unfold Fits; decide)).mono ?_
    rintro e w5 ⟨x, rfl, hx, hr5, hg5⟩
    have hb5 := draw_next (Nat.le_refl _) hb4 hr4 hg5
    go_wp2_with fail
    refine bodyPost_ret (results_four rfl _ _ _) rfl ?_
    exact ⟨o, l, a, x, rfl, ho, hl, ha, hx, hb5⟩
  · have h00 : (z == 0) = false := by simpa using h0
    clear z0 h0
    go_wp2_with fail
    refine bodyPost_ret (results_four rfl _ _ _) rfl ?_
    exact ⟨o, l, a, v, rfl, ho, hl, ha, ⟨by omega, by omega⟩, hb4⟩
end Go.Proofs.Ytkecappciglonaa

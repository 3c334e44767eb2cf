/- The walks of the drawn inputs of CodeBits and ReverseBits. Conditions: a slice of at most 1048576 bytes. -/
import Derived.Test.YtkecappciglonaaDr
import Derived.Test.YtkecappciglonaaCd
namespace Go.Proofs.Ytkecappciglonaa
open Go.RowKit

/-- A draw of three ints. -/
def DrawIII (w : World) (e : Ending) (w' : World) : Prop := ∃ a b c : Int, e = .returned (.tuple #[.int .i64 a, .int .i64 b, .int .i64 c]) ∧ Fits a ∧ Fits b ∧ Fits c ∧ Below w.heap.size w w'
def DrawII (w : World) (e : Ending) (w' : World) : Prop := ∃ a b : Int, e = .returned (.tuple #[.int .i64 a, .int .i64 b]) ∧ Fits a ∧ Fits b ∧ Below w.heap.size w w'

set_option maxRecDepth 100000 in
set_option maxHeartbeats 2000000 in
theorem draw_CodeBits (A : Option Addr) (n c : Nat) (w : World) (h : Src w w.heap.size A n) (hn : n ≤ 1048576) (hc : n ≤ c) (hcm : c ≤ maxLen) :
    Calls Try.prog 24 #[.slice A n c] w (DrawIII w) := by
  unfold maxLen at hcm
  have HO := hide (rd_open A n c w h hn hc hcm)
  clear h
  go_enter Try.func24, Try.ntmps24
  go_wp2_with fail
  refine (unhide HO).mono ?_; rintro e w1 ⟨g, rfl, hr1, hb1⟩
  clear HO
  go_wp2_with fail
  refine (rd_pick _ g 0 10 w1 hr1 (by omega) (by omega) (by omega)).mono ?_; rintro e w2 ⟨v, rfl, v0, v1, _, hr2, hg2⟩
  have hb2 := draw_next (Nat.le_refl _) hb1 hr1 hg2
  have v2 := v1 (by omega)
  clear v1 hb1 hr1 hg2
  go_wp2_with fail
  refine (rd_pick _ g 1 256 w2 hr2 (by omega) (by omega) (by omega)).mono ?_; rintro e w3 ⟨x, rfl, x0, x1, _, hr3, hg3⟩
  have hb3 := draw_next (Nat.le_refl _) hb2 hr2 hg3
  have x2 := x1 (by omega)
  clear x1 hb2 hr2 hg3
  go_wp2_with fail
  refine (rd_pick _ g 2 256 w3 hr3 (by omega) (by omega) (by omega)).mono ?_; rintro e w4 ⟨y, rfl, y0, y1, _, hr4, hg4⟩
  have hb4 := draw_next (Nat.le_refl _) hb3 hr3 hg4
  have y2 := y1 (by omega)
  clear y1 hb3 hr3 hg4
  go_wp2_with fail
  refine (spec_l1Two _ _ (by omega) (by omega)).mono ?_; rintro e w' ⟨rfl, rfl⟩
  have t1 := Sx.two_pos (1 + v)
  have t2 := Sx.two_lit (l := 1 + v) (by omega)
  go_wp2_with fail
  refine (rd_pick _ g 3 20 w4 hr4 (by omega) (by omega) (by omega)).mono ?_; rintro e w5 ⟨z, rfl, z0, z1, _, hr5, hg5⟩
  have hb5 := draw_next (Nat.le_refl _) hb4 hr4 hg5
  have z2 := z1 (by omega)
  clear z1 hb4 hr4 hg5
  have m0 : 0 ≤ (x * 256 + y) % Sx.two (1 + v) := Int.emod_nonneg _ (by omega)
  have m1 : (x * 256 + y) % Sx.two (1 + v) < Sx.two (1 + v) := Int.emod_lt_of_pos _ (by omega)
  generalize (x * 256 + y) % Sx.two (1 + v) = N at m0 m1
  by_cases h0 : z = 0
  · subst h0
    clear z0 z2
    go_wp2_with fail
    refine (num_list [0, 11, -1, 9223372036854775807] 3 hr5 (by omega) (by decide) (by decide) (Q := Fits) (by unfold Fits; decide)).mono ?_
    rintro e w6 ⟨q, rfl, hq, hr6, hg6⟩
    have hb6 := draw_next (Nat.le_refl _) hb5 hr5 hg6
    go_wp2_with fail
    refine (rd_which _ g 5 w6 hr6 (by omega)).mono ?_; rintro e w7 ⟨o, rfl, ho, p', _, hr7, hg7⟩
    go_wp2_with fail
    go_ret3
    exact ⟨o, N, q, rfl, ho, ⟨by omega, by omega⟩, hq, draw_next (Nat.le_refl _) hb6 hr6 hg7⟩
  · have h00 : (z == 0) = false := by simpa using h0
    by_cases h1 : z = 1
    · subst h1
      clear z0 z2 h0 h00
      go_wp2_with fail
      refine (spec_l1Two _ _ (by omega) (by omega)).mono ?_; rintro e w' ⟨rfl, rfl⟩
      go_wp2_with fail
      refine (num_list [-1, Sx.two (1 + v), 9223372036854775807] 3 hr5 (by omega) (by simp) (by simp) (Q := Fits) (by unfold Fits; intro q hq; simp at hq; omega)).mono ?_
      rintro e w6 ⟨q, rfl, hq, hr6, hg6⟩
      have hb6 := draw_next (Nat.le_refl _) hb5 hr5 hg6
      go_wp2_with fail
      refine (rd_which _ g 5 w6 hr6 (by omega)).mono ?_; rintro e w7 ⟨o, rfl, ho, p', _, hr7, hg7⟩
      go_wp2_with fail
      go_ret3
      exact ⟨o, q, 1 + v, rfl, ho, hq, ⟨by omega, by omega⟩, draw_next (Nat.le_refl _) hb6 hr6 hg7⟩
    · have h11 : (z == 1) = false := by simpa using h1
      clear z0 z2 h0 h1
      go_wp2_with fail
      refine (rd_which _ g 4 _ hr5 (by omega)).mono ?_; rintro e w7 ⟨o, rfl, ho, p', _, hr7, hg7⟩
      go_wp2_with fail
      go_ret3
      exact ⟨o, N, 1 + v, rfl, ho, ⟨by omega, by omega⟩, ⟨by omega, by omega⟩, draw_next (Nat.le_refl _) hb5 hr5 hg7⟩

set_option maxRecDepth 100000 in
set_option maxHeartbeats 1000000 in
theorem draw_ReverseBits (A : Option Addr) (n c : Nat) (w : World) (h : Src w w.heap.size A n) (hn : n ≤ 1048576) (hc : n ≤ c) (hcm : c ≤ maxLen) :
    Calls Try.prog 48 #[.slice A n c] w (DrawII w) := by
  have HO := hide (draw_CodeBits A n c w h hn hc hcm)
  clear h
  go_enter Try.func48, Try.ntmps48
  go_wp2_with fail
  refine (unhide HO).mono ?_; rintro e w1 ⟨a, b, d, rfl, ha, hb, hd, hb1⟩
  go_wp2_with fail
  go_ret2
  exact ⟨b, d, rfl, hb, hd, hb1⟩
end Go.Proofs.Ytkecappciglonaa

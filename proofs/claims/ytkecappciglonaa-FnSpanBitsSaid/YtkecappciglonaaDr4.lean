/- The walks of the drawn inputs of BitAt and SpanBits. Conditions: a slice of at most 1048576 bytes. -/
import Derived.Test.YtkecappciglonaaDr3
namespace Go.Proofs.Ytkecappciglonaa
open Go.RowKit

/-- A draw of an int, a string and an int. -/
def DrawISI (m : Nat) (w : World) (e : Ending) (w' : World) : Prop := ∃ (a : Int) (l : List UInt8) (b : Int), e = .returned (.tuple #[.int .i64 a, .string (str l), .int .i64 b]) ∧ Fits a ∧ l.length ≤ m ∧ Fits b ∧ Below w.heap.size w w'
def DrawISII (m : Nat) (w : World) (e : Ending) (w' : World) : Prop := ∃ (a : Int) (l : List UInt8) (b c : Int), e = .returned (.tuple #[.int .i64 a, .string (str l), .int .i64 b, .int .i64 c]) ∧ Fits a ∧ l.length ≤ m ∧ Fits b ∧ Fits c ∧ Below w.heap.size w w'

set_option maxRecDepth 100000 in
set_option maxHeartbeats 1000000 in
theorem draw_BitAt (A : Option Addr) (n c : Nat) (w : World) (h : Src w w.heap.size A n) (hn : n ≤ 1048576) (hc : n ≤ c) (hcm : c ≤ maxLen) :
    Calls Try.prog 20 #[.slice A n c] w (DrawISI 6 w) := by
  unfold maxLen at hcm
  have HO := hide (rd_open A n c w h hn hc hcm)
  clear h
  go_enter Try.func20, Try.ntmps20
  go_wp2_with fail
  refine (unhide HO).mono ?_; rintro e w1 ⟨g, rfl, hr1, hb1⟩
  clear HO
  have C := rd_bytes _ g 0 6 w1 hr1 (by omega) (by omega)
  rw [show ((6 : Nat) : Int) = 6 from rfl] at C
  have C := hide C
  go_wp2_with fail
  refine (unhide C).mono ?_; rintro e w2 ⟨l, rfl, hl, p2, hp2, hr2, hg2⟩
  clear C
  have hb2 := draw_next (Nat.le_refl _) hb1 hr1 hg2
  clear hb1 hr1 hg2
  have hm : (str l).size ≤ 6 := by rw [str_size]; exact hl
  have C := hide (rd_pick _ g p2 (8 * ((str l).size : Int) + 2) w2 hr2 (by omega) (by omega) (by omega))
  go_wp2_with fail
  refine (unhide C).mono ?_; rintro e w3 ⟨v, rfl, v0, v1, _, hr3, hg3⟩
  clear C
  have v2 := v1 (by omega)
  clear v1
  have hb3 := draw_next (Nat.le_refl _) hb2 hr2 hg3
  clear hb2 hr2 hg3
  go_wp2_with fail
  refine (rd_pick _ g (p2 + 1) 20 w3 hr3 (by omega) (by omega) (by omega)).mono ?_; rintro e w4 ⟨z, rfl, z0, z1, _, hr4, hg4⟩
  have hb4 := draw_next (Nat.le_refl _) hb3 hr3 hg4
  clear hb3 hr3 hg4 z1
  by_cases h0 : z = 0
  · subst h0
    clear z0
    go_wp2_with fail
    refine (num_list [-1, 9223372036854775807, -9223372036854775808] 3 hr4 (by omega) (by decide) (by decide) (Q := Fits) (by unfold Fits; decide)).mono ?_
    rintro e w5 ⟨x, rfl, hx, hr5, hg5⟩
    have hb5 := draw_next (Nat.le_refl _) hb4 hr4 hg5
    go_wp2_with fail
    refine (rd_which _ g _ _ hr5 (by omega)).mono ?_; rintro e w7 ⟨o, rfl, ho, p', _, hr7, hg7⟩
    go_wp2_with fail
    go_ret3
    exact ⟨o, l, x, rfl, ho, hl, hx, draw_next (Nat.le_refl _) hb5 hr5 hg7⟩
  · have h00 : (z == 0) = false := by simpa using h0
    clear z0 h0
    go_wp2_with fail
    refine (rd_which _ g _ _ hr4 (by omega)).mono ?_; rintro e w7 ⟨o, rfl, ho, p', _, hr7, hg7⟩
    go_wp2_with fail
    go_ret3
    exact ⟨o, l, v, rfl, ho, hl, ⟨by omega, by omega⟩, draw_next (Nat.le_refl _) hb4 hr4 hg7⟩
end Go.Proofs.Ytkecappciglonaa

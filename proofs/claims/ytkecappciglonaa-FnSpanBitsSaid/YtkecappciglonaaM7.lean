/- The walk of FnSpanBits. Conditions: a slice of bytes. -/
import Derived.Test.YtkecappciglonaaDr5
import Derived.Test.YtkecappciglonaaI
import Derived.Test.YtkecappciglonaaM6
namespace Go.Proofs.Ytkecappciglonaa
open Go.RowKit

set_option maxRecDepth 100000 in
set_option maxHeartbeats 2000000 in
theorem law_FnSpanBits (A : Option Addr) (n c : Nat) (w : World) (h : Src w w.heap.size A n) (hc : n ≤ c) (hcm : c ≤ maxLen) :
    Calls Try.prog 6 #[.slice A n c] w fun e w' => e = .returned (.bool true) ∧ Below w.heap.size w w' := by
  by_cases hn : n ≤ 1048576
  · have HD := hide (draw_SpanBits A n c w h hn hc hcm)
    clear h
    go_enter Try.func6, Try.ntmps6
    go_wp2_with fail
    refine (unhide HD).mono ?_; rintro e w1 ⟨o, l, a, n, rfl, _, hl, ⟨ha0, ha1⟩, ⟨hn0, hn1⟩, hb⟩
    clear HD
    have hm : (str l).size ≤ 6 := by rw [str_size]; exact hl
    generalize str l = s at hm
    clear hl
    by_cases h0 : Sx.streamOK o s = true
    · have HS := hide h0
      have hu := hide (Sx.ub_yes h0)
      have hz := hide (Sx.un_size (Sx.hiOf o) s)
      by_cases h1 : 0 ≤ a
      · by_cases h2 : 0 ≤ n
        · obtain ⟨A, rfl⟩ := Int.eq_ofNat_of_zero_le h1
          obtain ⟨N, rfl⟩ := Int.eq_ofNat_of_zero_le h2
          by_cases h3 : A ≤ 8 * s.size
          · by_cases h4 : N ≤ 8 * s.size - A
            · have HO := hide (Sx.span_mk (a := (A : Int)) (n := (N : Int)) h0 (by omega))
              have hr := hide (Sx.span_yes HO.out)
              clear h0
              go_wp2_with fail
              refine (impl_SpanBits _ _ _ _ _ (by omega)).mono ?_; rintro e w2 ⟨rfl, hb2⟩
              rw [hr.out, HO.out]
              have B2 := below_next (Nat.le_refl _) hb hb2
              go_wp2_with fail
              refine (spec_SpanBits _ _ _ _ _ (by omega)).mono ?_; rintro e w3 ⟨rfl, hb3⟩
              rw [hr.out, HO.out]
              have B3 := below_next (Nat.le_refl _) B2 hb3
              go_wp2_with fail
              refine (impl_UnpackBits _ _ _ (by omega)).mono ?_; rintro e w4 ⟨rfl, hb4⟩
              rw [HS.out, hu.out]
              have B4 := below_next (Nat.le_refl _) B3 hb4
              have h7 : (str (Sx.unpackL (Sx.hiOf o) s.data.toList)).size ≤ 48 := by rw [hz.out]; omega
              have h5 : A ≤ (str (Sx.unpackL (Sx.hiOf o) s.data.toList)).size := by rw [hz.out]; exact h3
              have h6 : N ≤ (str (Sx.unpackL (Sx.hiOf o) s.data.toList)).size := by rw [hz.out]; omega
              have h8 : A + N ≤ (str (Sx.unpackL (Sx.hiOf o) s.data.toList)).size := by rw [hz.out]; omega
              go_wp2_with fail
              go_ret
              exact ⟨rfl, B4⟩
            · have HO := hide (Sx.span_out (o := o) (s := s) (a := (A : Int)) (n := (N : Int)) (by omega))
              have hr := hide (Sx.span_no HO.out)
              clear h0
              go_wp2_with fail
              refine (impl_SpanBits _ _ _ _ _ (by omega)).mono ?_; rintro e w2 ⟨rfl, hb2⟩
              rw [hr.out, HO.out]
              have B2 := below_next (Nat.le_refl _) hb hb2
              go_wp2_with fail
              refine (spec_SpanBits _ _ _ _ _ (by omega)).mono ?_; rintro e w3 ⟨rfl, hb3⟩
              rw [hr.out, HO.out]
              have B3 := below_next (Nat.le_refl _) B2 hb3
              go_wp2_with fail
              refine (impl_UnpackBits _ _ _ (by omega)).mono ?_; rintro e w4 ⟨rfl, hb4⟩
              rw [HS.out, hu.out]
              have B4 := below_next (Nat.le_refl _) B3 hb4
              have h7 : (str (Sx.unpackL (Sx.hiOf o) s.data.toList)).size ≤ 48 := by rw [hz.out]; omega
              have h5 : A ≤ (str (Sx.unpackL (Sx.hiOf o) s.data.toList)).size := by rw [hz.out]; exact h3
              by_cases h6 : N ≤ (str (Sx.unpackL (Sx.hiOf o) s.data.toList)).size
              · have h8 : decide ((A : Int) + (N : Int) ≤ ((str (Sx.unpackL (Sx.hiOf o) s.data.toList)).size : Int)) = false := decide_eq_false (by rw [hz.out]; omega)
                go_wp2_with fail
                go_ret
                first | exact ⟨rfl, B4⟩ | exact ⟨congrArg (fun b => Ending.returned (.bool !b)) h8, B4⟩
              go_wp2_with fail
              go_ret
              exact ⟨rfl, B4⟩
          · have HO := hide (Sx.span_out (o := o) (s := s) (a := (A : Int)) (n := (N : Int)) (by omega))
            have hr := hide (Sx.span_no HO.out)
            clear h0
            go_wp2_with fail
            refine (impl_SpanBits _ _ _ _ _ (by omega)).mono ?_; rintro e w2 ⟨rfl, hb2⟩
            rw [hr.out, HO.out]
            have B2 := below_next (Nat.le_refl _) hb hb2
            go_wp2_with fail
            refine (spec_SpanBits _ _ _ _ _ (by omega)).mono ?_; rintro e w3 ⟨rfl, hb3⟩
            rw [hr.out, HO.out]
            have B3 := below_next (Nat.le_refl _) B2 hb3
            go_wp2_with fail
            refine (impl_UnpackBits _ _ _ (by omega)).mono ?_; rintro e w4 ⟨rfl, hb4⟩
            rw [HS.out, hu.out]
            have B4 := below_next (Nat.le_refl _) B3 hb4
            have h5 : ¬ A ≤ (str (Sx.unpackL (Sx.hiOf o) s.data.toList)).size := by rw [hz.out]; exact h3
            go_wp2_with fail
            go_ret
            exact ⟨rfl, B4⟩
        · have HO := hide (Sx.span_out (o := o) (s := s) (a := a) (n := n) (by omega))
          have hr := hide (Sx.span_no HO.out)
          clear h0
          go_wp2_with fail
          refine (impl_SpanBits _ _ _ _ _ (by omega)).mono ?_; rintro e w2 ⟨rfl, hb2⟩
          rw [hr.out, HO.out]
          have B2 := below_next (Nat.le_refl _) hb hb2
          go_wp2_with fail
          refine (spec_SpanBits _ _ _ _ _ (by omega)).mono ?_; rintro e w3 ⟨rfl, hb3⟩
          rw [hr.out, HO.out]
          have B3 := below_next (Nat.le_refl _) B2 hb3
          go_wp2_with fail
          refine (impl_UnpackBits _ _ _ (by omega)).mono ?_; rintro e w4 ⟨rfl, hb4⟩
          rw [HS.out, hu.out]
          have B4 := below_next (Nat.le_refl _) B3 hb4
          by_cases h5 : a ≤ ((str (Sx.unpackL (Sx.hiOf o) s.data.toList)).size : Int)
          · go_wp2_with fail
            go_ret
            exact ⟨rfl, B4⟩
          go_wp2_with fail
          go_ret
          exact ⟨rfl, B4⟩
      · have HO := hide (Sx.span_out (o := o) (s := s) (a := a) (n := n) (by omega))
        have hr := hide (Sx.span_no HO.out)
        clear h0
        go_wp2_with fail
        refine (impl_SpanBits _ _ _ _ _ (by omega)).mono ?_; rintro e w2 ⟨rfl, hb2⟩
        rw [hr.out, HO.out]
        have B2 := below_next (Nat.le_refl _) hb hb2
        go_wp2_with fail
        refine (spec_SpanBits _ _ _ _ _ (by omega)).mono ?_; rintro e w3 ⟨rfl, hb3⟩
        rw [hr.out, HO.out]
        have B3 := below_next (Nat.le_refl _) B2 hb3
        go_wp2_with fail
        refine (impl_UnpackBits _ _ _ (by omega)).mono ?_; rintro e w4 ⟨rfl, hb4⟩
        rw [HS.out, hu.out]
        have B4 := below_next (Nat.le_refl _) B3 hb4
        go_wp2_with fail
        go_ret
        exact ⟨rfl, B4⟩
    · have h0 : Sx.streamOK o s = false := by simpa using h0
      have HS := hide h0
      have HO := hide (Sx.span_stream (a := a) (n := n) h0)
      have hr := hide (Sx.span_no HO.out)
      clear h0
      go_wp2_with fail
      refine (impl_SpanBits _ _ _ _ _ (by omega)).mono ?_; rintro e w2 ⟨rfl, hb2⟩
      rw [hr.out, HO.out]
      have B2 := below_next (Nat.le_refl _) hb hb2
      go_wp2_with fail
      refine (spec_SpanBits _ _ _ _ _ (by omega)).mono ?_; rintro e w3 ⟨rfl, hb3⟩
      rw [hr.out, HO.out]
      have B3 := below_next (Nat.le_refl _) B2 hb3
      go_wp2_with fail
      refine (impl_UnpackBits _ _ _ (by omega)).mono ?_; rintro e w4 ⟨rfl, hb4⟩
      rw [HS.out]
      have B4 := below_next (Nat.le_refl _) B3 hb4
      go_wp2_with fail
      go_ret
      exact ⟨rfl, B4⟩
  · clear h
    go_enter Try.func6, Try.ntmps6
    go_wp2_with fail
    go_ret
    exact ⟨rfl, Below.refl _ _⟩
end Go.Proofs.Ytkecappciglonaa

/- The walks of soBits and FnTurnBytes. Conditions: a slice of bytes. -/
import Derived.Test.YtkecappciglonaaDr3
import Derived.Test.YtkecappciglonaaO
import Derived.Test.YtkecappciglonaaM2
namespace Go.Proofs.Ytkecappciglonaa
open Go.RowKit

theorem Sx.rev8_num (b : UInt8) : (Sx.rev8 b).toNat = Sx.numOf true (Sx.cbits false b.toNat 8) := by
  have h : Sx.numOf true (Sx.cbits false b.toNat 8) < 256 := by have := Sx.numOf_lt true (Sx.cbits false b.toNat 8); rwa [Sx.cbits_length] at this
  have := Sx.byte_num h
  unfold Sx.rev8; omega
theorem Sx.rev8_rev8 (b : UInt8) : Sx.rev8 (Sx.rev8 b) = b := by
  have h := Sx.rev_rev (N := b.toNat) (D := 8) (by have := b.toNat_lt; simpa using this)
  rw [← Sx.rev8_num] at h
  rw [show Sx.rev8 (Sx.rev8 b) = UInt8.ofNat (Sx.numOf true (Sx.cbits false (Sx.rev8 b).toNat 8)) from rfl, h]; simp
theorem Sx.cbits_rev8 (hi : Bool) (b : UInt8) : Sx.cbits (!hi) (Sx.rev8 b).toNat 8 = Sx.cbits hi b.toNat 8 := by
  cases hi
  · rw [Sx.rev8_num]; exact Sx.rev_high
  · rw [Sx.rev8_num, show (!true) = false from rfl, Sx.rev_cbits, Sx.cbits_rev]
theorem Sx.un_rev8 (hi : Bool) (l : List UInt8) : Sx.unpackL (!hi) (l.map Sx.rev8) = Sx.unpackL hi l := by
  induction l with
  | nil => rfl
  | cons b t ih =>
    have h := Sx.cbits_rev8 hi b
    simp only [Sx.unpackL, List.map_cons, List.flatMap_cons] at ih ⊢
    rw [ih, h]
theorem Sx.hi_not' {o : Int} (h : o = 0 ∨ o = 1) : Sx.hiOf (1 - o) = !(Sx.hiOf o) := by rcases h with rfl | rfl <;> rfl

set_option maxRecDepth 100000 in
set_option maxHeartbeats 1000000 in
theorem laws_soBits (o : Int) (s : ByteArray) (w : World) (hm : s.size ≤ 9223372036854775807) :
    Calls Try.prog 56 #[.int .i64 o, .string s] w fun e w' => e = .returned (.string (Sx.ubS o s)) ∧ Below w.heap.size w w' := by
  go_enter Try.func56, Try.ntmps56
  go_wp2_with fail
  refine (impl_UnpackBits _ _ _ hm).mono ?_; rintro e w1 ⟨rfl, hb1⟩
  go_wp2_with fail
  go_ret
  exact ⟨rfl, hb1⟩

set_option maxRecDepth 100000 in
set_option maxHeartbeats 1000000 in
theorem law_FnTurnBytes (A : Option Addr) (n c : Nat) (w : World) (h : Src w w.heap.size A n) (hc : n ≤ c) (hcm : c ≤ maxLen) :
    Calls Try.prog 12 #[.slice A n c] w fun e w' => e = .returned (.bool true) ∧ Below w.heap.size w w' := by
  by_cases hn : n ≤ 1048576
  · have HD := hide (draw_UnpackBits A n c w h hn hc hcm)
    clear h
    go_enter Try.func12, Try.ntmps12
    go_wp2_with fail
    refine (unhide HD).mono ?_; rintro e w1 ⟨o, l, rfl, _, hl, hb⟩
    clear HD
    have hm : (str l).size ≤ 9223372036854775807 := by rw [str_size]; omega
    by_cases h4 : l.length ≤ 4000
    · have h4s : (str l).size ≤ 4000 := h4
      have HT := hide (show Sx.turnS (str l) = str (l.map Sx.rev8) from Sx.turn_yes h4s)
      have HD4 := hide (show decide ((str l).size ≤ 4000) = true from decide_eq_true h4s)
      have h5s : (str (l.map Sx.rev8)).size ≤ 4000 := by rw [str_size, List.length_map]; exact h4
      have HT2 := hide (show Sx.turnS (str (l.map Sx.rev8)) = str l by
        rw [Sx.turn_yes h5s, str_data, List.map_map]
        have : (Sx.rev8 ∘ Sx.rev8) = id := funext fun b => Sx.rev8_rev8 b
        rw [this, List.map_id])
      have HD5 := hide (show decide ((str (l.map Sx.rev8)).size ≤ 4000) = true from decide_eq_true h5s)
      have hm5 : (str (l.map Sx.rev8)).size ≤ 9223372036854775807 := by omega
      have hsz : (((str (l.map Sx.rev8)).size : Int) == ((str l).size : Int)) = true := by rw [str_size, List.length_map, str_size]; simp
      clear h4 h4s h5s
      by_cases hoo : o = 0 ∨ o = 1
      · have ho1 : Sx.ordOK o = true := by simp only [Sx.ordOK, decide_eq_true_iff]; exact hoo
        have ho2 : Sx.ordOK (1 - o) = true := by simp only [Sx.ordOK, decide_eq_true_iff]; omega
        have HU := hide (show Sx.ubS (1 - o) (str (l.map Sx.rev8)) = Sx.ubS o (str l) by
          rw [Sx.ub_yes (Sx.stream_mk ho2 (of_decide_eq_true HD5.out)), Sx.ub_yes (Sx.stream_mk ho1 (of_decide_eq_true HD4.out)), str_data, str_data, Sx.hi_not' hoo, Sx.un_rev8])
        clear ho1 ho2
        rcases hoo with rfl | rfl
        · have HU' := hide (show Sx.ubS 1 (str (l.map Sx.rev8)) = Sx.ubS 0 (str l) from HU.out)
          clear HU
          have HU := HU'
          clear HU'
          go_wp2_with fail
          refine (impl_TurnBytes _ _ hm).mono ?_; rintro e w2 ⟨rfl, hb2⟩
          rw [HT.out, HD4.out]
          have B2 := below_next (Nat.le_refl _) hb hb2
          go_wp2_with fail
          refine (spec_TurnBytes _ _ hm).mono ?_; rintro e w3 ⟨rfl, hb3⟩
          rw [HT.out, HD4.out]
          have B3 := below_next (Nat.le_refl _) B2 hb3
          go_wp2_with fail
          refine (impl_TurnBytes _ _ hm5).mono ?_; rintro e w4 ⟨rfl, hb4⟩
          rw [HT2.out, HD5.out]
          have B4 := below_next (Nat.le_refl _) B3 hb4
          go_wp2_with fail
          refine (laws_soBits _ _ _ hm5).mono ?_; rintro e w5 ⟨rfl, hb5⟩
          rw [HU.out]
          have B5 := below_next (Nat.le_refl _) B4 hb5
          go_wp2_with fail
          refine (laws_soBits _ _ _ hm).mono ?_; rintro e w6 ⟨rfl, hb6⟩
          have B6 := below_next (Nat.le_refl _) B5 hb6
          go_wp2_with fail
          go_ret
          exact ⟨rfl, B6⟩
        · have HU' := hide (show Sx.ubS 0 (str (l.map Sx.rev8)) = Sx.ubS 1 (str l) from HU.out)
          clear HU
          have HU := HU'
          clear HU'
          go_wp2_with fail
          refine (impl_TurnBytes _ _ hm).mono ?_; rintro e w2 ⟨rfl, hb2⟩
          rw [HT.out, HD4.out]
          have B2 := below_next (Nat.le_refl _) hb hb2
          go_wp2_with fail
          refine (spec_TurnBytes _ _ hm).mono ?_; rintro e w3 ⟨rfl, hb3⟩
          rw [HT.out, HD4.out]
          have B3 := below_next (Nat.le_refl _) B2 hb3
          go_wp2_with fail
          refine (impl_TurnBytes _ _ hm5).mono ?_; rintro e w4 ⟨rfl, hb4⟩
          rw [HT2.out, HD5.out]
          have B4 := below_next (Nat.le_refl _) B3 hb4
          go_wp2_with fail
          refine (laws_soBits _ _ _ hm5).mono ?_; rintro e w5 ⟨rfl, hb5⟩
          rw [HU.out]
          have B5 := below_next (Nat.le_refl _) B4 hb5
          go_wp2_with fail
          refine (laws_soBits _ _ _ hm).mono ?_; rintro e w6 ⟨rfl, hb6⟩
          have B6 := below_next (Nat.le_refl _) B5 hb6
          go_wp2_with fail
          go_ret
          exact ⟨rfl, B6⟩
      · have c0 : (o != 0) = true := by rw [bne_iff_ne]; omega
        have c1 : (o != 1) = true := by rw [bne_iff_ne]; omega
        clear hoo
        go_wp2_with fail
        refine (impl_TurnBytes _ _ hm).mono ?_; rintro e w2 ⟨rfl, hb2⟩
        rw [HT.out, HD4.out]
        have B2 := below_next (Nat.le_refl _) hb hb2
        go_wp2_with fail
        refine (spec_TurnBytes _ _ hm).mono ?_; rintro e w3 ⟨rfl, hb3⟩
        rw [HT.out, HD4.out]
        have B3 := below_next (Nat.le_refl _) B2 hb3
        go_wp2_with fail
        go_ret
        exact ⟨rfl, B3⟩
    · have HD4 := hide (show decide ((str l).size ≤ 4000) = false from decide_eq_false h4)
      go_wp2_with fail
      refine (impl_TurnBytes _ _ hm).mono ?_; rintro e w2 ⟨rfl, hb2⟩
      rw [HD4.out]
      have B2 := below_next (Nat.le_refl _) hb hb2
      go_wp2_with fail
      refine (spec_TurnBytes _ _ hm).mono ?_; rintro e w3 ⟨rfl, hb3⟩
      rw [HD4.out]
      have B3 := below_next (Nat.le_refl _) B2 hb3
      go_wp2_with fail
      go_ret
      exact ⟨rfl, B3⟩
  · clear h
    go_enter Try.func12, Try.ntmps12
    go_wp2_with fail
    go_ret
    exact ⟨rfl, Below.refl _ _⟩
end Go.Proofs.Ytkecappciglonaa

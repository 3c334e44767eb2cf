/- The walks of DataFits. Conditions: each field is an int, the string fits in memory. -/
import Derived.Test.YtkecappciglonaaCd
import Derived.Test.YtkecappciglonaaB
import Derived.Deep.QuietTactic
import Derived.BigQuiet
import Derived.Deep.RegionHeld3
import Derived.Outline
namespace Go.Proofs.Ytkecappciglonaa
open Go.RowKit

theorem Sx.isLit_yes {l : Int} {b : UInt8} (h : (b.toNat : Int) < Sx.two l) : Sx.isLit l b = true := by simp [Sx.isLit, h]
theorem Sx.isLit_no {l : Int} {b : UInt8} (h : ¬ (b.toNat : Int) < Sx.two l) : Sx.isLit l b = false := by simp [Sx.isLit, h]
theorem Sx.fits_set {o l m : Int} {s : ByteArray} (h : Sx.setOK o l m = false) : Sx.fits o l m s = false := by simp [Sx.fits, h]
theorem Sx.fits_len {o l m : Int} {s : ByteArray} (h : ¬ s.size ≤ 2000) : Sx.fits o l m s = false := by simp [Sx.fits, h]
theorem Sx.fits_bad {o l m : Int} {s : ByteArray} (h : s.data.toList.all (Sx.isLit l) = false) : Sx.fits o l m s = false := by simp [Sx.fits, h]
theorem Sx.fits_yes {o l m : Int} {s : ByteArray} (h : Sx.setOK o l m = true) (h1 : s.size ≤ 2000) (h2 : s.data.toList.all (Sx.isLit l) = true) : Sx.fits o l m s = true := by simp [Sx.fits, h, h1, h2]

theorem wrap_byte (b : UInt8) : wrap64 (b.toNat : Int) = (b.toNat : Int) := by
  have := b.toNat_lt
  exact IntWalk.wrap64_in _ ⟨by omega, by omega⟩
theorem lit_yes {l : Int} {b : UInt8} (h2 : l ≤ 10) (h : (b.toNat : Int) < Sx.two l) : decide (wrap64 (2 ^ l.toNat) ≤ wrap64 (b.toNat : Int)) = false := by
  rw [wrap_two h2, wrap_byte, decide_eq_false_iff_not]; omega
theorem lit_no {l : Int} {b : UInt8} (h2 : l ≤ 10) (h : ¬ (b.toNat : Int) < Sx.two l) : decide (wrap64 (2 ^ l.toNat) ≤ wrap64 (b.toNat : Int)) = true := by
  rw [wrap_two h2, wrap_byte, decide_eq_true_iff]; omega
theorem kwrap_byte (b : UInt8) : IntKind.i64.wrap (b.toNat : Int) = (b.toNat : Int) := by
  have := b.toNat_lt
  exact IntWalk.i64_in _ (by omega)
theorem lit2_yes {l : Int} {b : UInt8} (h : (b.toNat : Int) < Sx.two l) : decide (Sx.two l ≤ IntKind.i64.wrap (b.toNat : Int)) = false := by
  rw [kwrap_byte, decide_eq_false_iff_not]; omega
theorem lit2_no {l : Int} {b : UInt8} (h : ¬ (b.toNat : Int) < Sx.two l) : decide (Sx.two l ≤ IntKind.i64.wrap (b.toNat : Int)) = true := by
  rw [kwrap_byte, decide_eq_true_iff]; omega

set_option maxHeartbeats 400000 in
theorem impl_DataFits (o l m : Int) (s : ByteArray) (w : World) (hs : s.size ≤ 9223372036854775807) :
    Calls Try.prog 34 #[sv o l m, .string s] w fun e w' => e = .returned (.bool (Sx.fits o l m s)) ∧ Below w.heap.size w w' := by
  by_cases hv : Sx.setOK o l m = true
  · obtain ⟨c1, c2, c3, c4⟩ := Sx.setOK_bd hv
    by_cases hl : s.size ≤ 2000
    · go_enter Try.func34, Try.ntmps34
      go_wp2_with fail
      refine (impl_SettingValid _ _ _ _).mono ?_; rintro e w1 ⟨rfl, hb1⟩
      have hc1 := keepCell hb1 (g := w.heap.size) (by simp)
      have hcell : w1.cell? ⟨w.heap.size, 1, none⟩ = some (.int .i64 l) := by rw [hc1]; go_simp
      clear hc1
      have HV := hide hv
      rw [hv]
      clear hv
      go_wp2_with fail
      go_loopw [5, 16] (fun _ i wr => (∃ k : Nat, k ≤ s.size ∧ i = .int .i64 k ∧ Hid ((s.data.toList.take k).all (Sx.isLit l) = true)) ∧ ∃ n, wr = w1.drewN n) (fun _ i _ => s.size - (intOf i).toNat)
      case atStart => exact ⟨⟨0, Nat.zero_le _, rfl, rfl⟩, 0, rfl⟩
      case round =>
        obtain ⟨⟨k, hk, rfl, hall⟩, n, rfl⟩ := hrel
        by_cases hlt : k < s.size
        · by_cases hb : (s[k].toNat : Int) < Sx.two l
          · have H := hide (Sx.all_step hlt hall.out (Sx.isLit_yes hb))
            have hd := lit_yes (b := s[k]) (l := l) (by omega) hb
            clear hb
            go_wp2_with fail
            go_quiet (fail)
            go_wp2
            go_roundw
            case rel => exact ⟨⟨k + 1, by omega, by go_num, H⟩, _, rfl⟩
            case measure => simp [intOf]; omega
          · have H := hide (Sx.fits_bad (o := o) (m := m) (Sx.all_bad hlt (Sx.isLit_no hb)))
            have hd := lit_no (b := s[k]) (l := l) (by omega) hb
            clear hb
            go_wp2_with fail
            go_quiet (fail)
            go_wp2
            go_ret
            exact ⟨ret_bool H.out.symm, below_drewN (below_drewN (((Below.refl _ _).alloc (Nat.le_refl _) _).trans (hb1.mono (by simp))) _) _⟩
        · have H := hide (Sx.fits_yes HV.out hl (Sx.all_done hlt hall.out))
          go_wp2
          go_ret
          exact ⟨ret_bool H.out.symm, below_drewN (((Below.refl _ _).alloc (Nat.le_refl _) _).trans (hb1.mono (by simp))) _⟩
    · have H := hide (Sx.fits_len (o := o) (l := l) (m := m) hl)
      go_enter Try.func34, Try.ntmps34
      go_wp2_with fail
      refine (impl_SettingValid _ _ _ _).mono ?_; rintro e w1 ⟨rfl, hb1⟩
      rw [hv]
      clear hv
      go_wp2_with fail
      go_ret
      exact ⟨ret_bool H.out.symm, ((Below.refl _ _).alloc (Nat.le_refl _) _).trans (hb1.mono (by simp))⟩
  · have hv : Sx.setOK o l m = false := by simpa using hv
    have H := hide (Sx.fits_set (s := s) hv)
    go_enter Try.func34, Try.ntmps34
    go_wp2_with fail
    refine (impl_SettingValid _ _ _ _).mono ?_; rintro e w1 ⟨rfl, hb1⟩
    go_wp2_with fail
    go_ret
    exact ⟨ret_bool H.out.symm, ((Below.refl _ _).alloc (Nat.le_refl _) _).trans (hb1.mono (by simp))⟩

set_option maxHeartbeats 400000 in
theorem spec_l1Fits (o l m : Int) (s : ByteArray) (w : World) (hs : s.size ≤ 9223372036854775807) (h1 : 0 ≤ l) (h2 : l ≤ 10) :
    Calls Try.prog 87 #[sv o l m, .string s] w fun e w' => e = .returned (.bool (Sx.lits l s)) ∧ Below w.heap.size w w' := by
  go_enter Try.func87, Try.ntmps87
  go_wp2_with fail
  go_loopw [5] (fun i wr => (∃ k : Nat, k ≤ s.size ∧ i = .int .i64 k ∧ Hid ((s.data.toList.take k).all (Sx.isLit l) = true)) ∧ Below (w.heap.size + 1) (w.alloc (.cells #[.int .i64 o, .int .i64 l, .int .i64 m] 42)) wr) (fun i _ => s.size - (intOf i).toNat)
  case atStart => exact ⟨⟨0, Nat.zero_le _, rfl, rfl⟩, Below.refl _ _⟩
  case round =>
    obtain ⟨⟨k, hk, rfl, hall⟩, hbw⟩ := hrel
    have hz : w.heap.size + 1 ≤ wr.heap.size := by have := hbw.size; simpa using this
    by_cases hlt : k < s.size
    · have hc := keepCell hbw (g := w.heap.size) (by omega)
      have e0 : wr.cell? ⟨w.heap.size, 0, none⟩ = some (.int .i64 o) := by rw [hc]; go_simp
      have e1 : wr.cell? ⟨w.heap.size, 1, none⟩ = some (.int .i64 l) := by rw [hc]; go_simp
      have e2 : wr.cell? ⟨w.heap.size, 2, none⟩ = some (.int .i64 m) := by rw [hc]; go_simp
      clear hc
      by_cases hb : (s[k].toNat : Int) < Sx.two l
      · have H := hide (Sx.all_step hlt hall.out (Sx.isLit_yes hb))
        have hd := lit2_yes (b := s[k]) (l := l) hb
        clear hb
        go_wp2_with fail
        go_region_held3 (fun w' => w'.cell? ⟨w.heap.size, 0, none⟩ = some (.int .i64 o) ∧ w'.cell? ⟨w.heap.size, 1, none⟩ = some (.int .i64 l) ∧ w'.cell? ⟨w.heap.size, 2, none⟩ = some (.int .i64 m)) (first | exact ⟨e0, e1, e2⟩ | exact ⟨q0, q1, q2⟩)
          (first | (go_at_call 89; refine (spec_l1Clear o l m _ h1 h2).mono ?_; rintro e w2 ⟨rfl, hb2⟩; have q0 := (keepCell hb2 (g := w.heap.size) hz 0).trans e0; have q1 := (keepCell hb2 (g := w.heap.size) hz 1).trans e1; have q2 := (keepCell hb2 (g := w.heap.size) hz 2).trans e2))
        all_goals
          go_wp2
          go_roundw
          case rel => exact ⟨⟨k + 1, by omega, by go_num, H⟩, hbw.drew.trans (hb2.mono hz)⟩
          case measure => simp [intOf]; omega
      · have H := hide (show Sx.lits l s = false from Sx.all_bad hlt (Sx.isLit_no hb))
        have hd := lit2_no (b := s[k]) (l := l) hb
        clear hb
        go_wp2_with fail
        go_region_held3 (fun w' => w'.cell? ⟨w.heap.size, 0, none⟩ = some (.int .i64 o) ∧ w'.cell? ⟨w.heap.size, 1, none⟩ = some (.int .i64 l) ∧ w'.cell? ⟨w.heap.size, 2, none⟩ = some (.int .i64 m)) (first | exact ⟨e0, e1, e2⟩ | exact ⟨q0, q1, q2⟩)
          (first | (go_at_call 89; refine (spec_l1Clear o l m _ h1 h2).mono ?_; rintro e w2 ⟨rfl, hb2⟩; have q0 := (keepCell hb2 (g := w.heap.size) hz 0).trans e0; have q1 := (keepCell hb2 (g := w.heap.size) hz 1).trans e1; have q2 := (keepCell hb2 (g := w.heap.size) hz 2).trans e2))
        all_goals
          go_wp2
          go_ret
          exact ⟨ret_bool H.out.symm, ((Below.refl _ _).alloc (Nat.le_refl _) _).trans ((hbw.drew.trans (hb2.mono hz)).mono (by omega))⟩
    · have H := hide (show Sx.lits l s = true from Sx.all_done hlt hall.out)
      go_wp2
      go_ret
      exact ⟨ret_bool H.out.symm, ((Below.refl _ _).alloc (Nat.le_refl _) _).trans (hbw.mono (by omega))⟩

set_option maxHeartbeats 400000 in
theorem spec_DataFits (o l m : Int) (s : ByteArray) (w : World) (hs : s.size ≤ 9223372036854775807) :
    Calls Try.prog 35 #[sv o l m, .string s] w fun e w' => e = .returned (.bool (Sx.fits o l m s)) ∧ Below w.heap.size w w' := by
  by_cases hv : Sx.setOK o l m = true
  · obtain ⟨c1, c2, c3, c4⟩ := Sx.setOK_bd hv
    by_cases hl : s.size ≤ 2000
    · have H := hide (show Sx.fits o l m s = Sx.lits l s by simp [Sx.fits, Sx.lits, hv, hl])
      go_enter Try.func35, Try.ntmps35
      go_wp2_with fail
      refine (spec_SettingValid _ _ _ _).mono ?_; rintro e w1 ⟨rfl, hb1⟩
      have hz1 := size_of_alloc hb1
      have hc1 := keepCell hb1 (g := w.heap.size) (by simp)
      rw [hv]
      clear hv
      go_wp2_with fail
      refine (spec_l1Fits _ _ _ _ _ hs (by omega) (by omega)).mono ?_; rintro e w2 ⟨rfl, hb2⟩
      go_wp2_with fail
      go_ret
      exact ⟨ret_bool H.out.symm, (((Below.refl _ _).alloc (Nat.le_refl _) _).trans (hb1.mono (by simp))).trans (hb2.mono (by omega))⟩
    · have H := hide (Sx.fits_len (o := o) (l := l) (m := m) hl)
      go_enter Try.func35, Try.ntmps35
      go_wp2_with fail
      refine (spec_SettingValid _ _ _ _).mono ?_; rintro e w1 ⟨rfl, hb1⟩
      rw [hv]
      clear hv
      go_wp2_with fail
      go_ret
      exact ⟨ret_bool H.out.symm, ((Below.refl _ _).alloc (Nat.le_refl _) _).trans (hb1.mono (by simp))⟩
  · have hv : Sx.setOK o l m = false := by simpa using hv
    have H := hide (Sx.fits_set (s := s) hv)
    go_enter Try.func35, Try.ntmps35
    go_wp2_with fail
    refine (spec_SettingValid _ _ _ _).mono ?_; rintro e w1 ⟨rfl, hb1⟩
    go_wp2_with fail
    go_ret
    exact ⟨ret_bool H.out.symm, ((Below.refl _ _).alloc (Nat.le_refl _) _).trans (hb1.mono (by simp))⟩
end Go.Proofs.Ytkecappciglonaa

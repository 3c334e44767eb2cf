/- The walks of ClearCode, EndCode, LastCode. Conditions: each field is an int. -/
import Derived.Test.YtegfcpdkehgdpaaS
namespace Go.Proofs.Ytegfcpdkehgdpaa
open Go.RowKit

theorem Sx.two_lit {l : Int} (h : l ≤ 10) : Sx.two l ≤ 1024 := by
  have := Sx.two_le (a := l) 10 (by omega); simpa using this

theorem wrap_two {l : Int} (h2 : l ≤ 10) : wrap64 (2 ^ l.toNat) = Sx.two l := by
  have h := Sx.two_lit h2
  have h1 := Sx.two_pos l
  unfold Sx.two at h h1 ⊢
  rw [Int.natCast_pow] at h h1 ⊢
  exact IntWalk.wrap64_in _ ⟨by simp at h1 ⊢; omega, by simp at h ⊢; omega⟩

set_option maxHeartbeats 400000 in
theorem spec_l1Two (n : Int) (w : World) (h0 : 0 ≤ n) (h1 : n ≤ 10) :
    Calls Try.prog 98 #[.int .i64 n] w fun e w' => e = .returned (.int .i64 (Sx.two n)) ∧ w = w' := by
  go_enter Try.func98, Try.ntmps98
  go_wp2
  go_ret
  exact ⟨ret_int (wrap_two h1), rfl⟩

theorem Sx.setOK_bd {o l m : Int} (h : Sx.setOK o l m = true) : 1 ≤ l ∧ l ≤ 8 ∧ l + 2 ≤ m ∧ m ≤ 10 := by
  simp only [Sx.setOK, decide_eq_true_iff] at h; exact h.2
theorem Sx.setOK_od {o l m : Int} (h : Sx.setOK o l m = true) : o = 0 ∨ o = 1 := by
  simp only [Sx.setOK, decide_eq_true_iff] at h; exact h.1
theorem Sx.clear_yes {o l m : Int} (h : Sx.setOK o l m = true) : Sx.clearI o l m = Sx.two l := if_pos h
theorem Sx.clear_no {o l m : Int} (h : Sx.setOK o l m = false) : Sx.clearI o l m = -1 := if_neg (by simp [h])
theorem Sx.end_yes {o l m : Int} (h : Sx.setOK o l m = true) : Sx.endI o l m = Sx.two l + 1 := if_pos h
theorem Sx.end_no {o l m : Int} (h : Sx.setOK o l m = false) : Sx.endI o l m = -1 := if_neg (by simp [h])
theorem Sx.last_yes {o l m : Int} (h : Sx.setOK o l m = true) : Sx.lastI o l m = Sx.two m - 1 := if_pos h
theorem Sx.last_no {o l m : Int} (h : Sx.setOK o l m = false) : Sx.lastI o l m = -1 := if_neg (by simp [h])

set_option maxHeartbeats 400000 in
theorem spec_l1Clear (o l m : Int) (w : World) (h0 : 0 ≤ l) (h1 : l ≤ 10) :
    Calls Try.prog 57 #[sv o l m] w fun e w' => e = .returned (.int .i64 (Sx.two l)) ∧ Below w.heap.size w w' := by
  have b1 := Sx.two_pos l
  have b2 := Sx.two_lit h1
  go_enter Try.func57, Try.ntmps57
  go_wp2_with (go_at_call 98; refine (spec_l1Two _ _ h0 h1).mono ?_; rintro e w' ⟨rfl, rfl⟩)
  go_ret
  exact ⟨rfl, (by repeat' (first | exact Below.refl _ _ | assumption | exact Nat.le_refl _ | apply Below.alloc | apply Below.drew | (focus (simp; done)) | (focus (simp; omega)) | omega))⟩

set_option maxHeartbeats 400000 in
theorem impl_ClearCode (o l m : Int) (w : World) :
    Calls Try.prog 47 #[sv o l m] w fun e w' => e = .returned (.int .i64 (Sx.clearI o l m)) ∧ Below w.heap.size w w' := by
  by_cases hv : Sx.setOK o l m = true
  · have hy := hide (Sx.clear_yes hv)
    have hbd := Sx.setOK_bd hv
    obtain ⟨c1, c2, c3, c4⟩ := hbd
    have b1 := Sx.two_pos l
    have b2 := Sx.two_lit (show l ≤ 10 by omega)
    go_enter Try.func47, Try.ntmps47
    go_wp2_with fail
    refine (impl_SettingValid _ _ _ _).mono ?_; rintro e w1 ⟨rfl, hb1⟩
    have hz1 := size_of_alloc hb1
    have hc1 := keepCell hb1 (g := w.heap.size) (by simp)
    go_wp2_with fail
    go_ret
    exact ⟨ret_int ((wrap_two (by omega)).trans hy.out.symm), (((Below.refl _ _).alloc (Nat.le_refl _) _).trans (hb1.mono (by simp)))⟩
  · have hv : Sx.setOK o l m = false := by simpa using hv
    have hy := hide (Sx.clear_no hv)
    go_enter Try.func47, Try.ntmps47
    go_wp2_with fail
    refine (impl_SettingValid _ _ _ _).mono ?_; rintro e w1 ⟨rfl, hb1⟩
    go_wp2_with fail
    go_ret
    exact ⟨ret_int hy.out.symm, (((Below.refl _ _).alloc (Nat.le_refl _) _).trans (hb1.mono (by simp)))⟩

set_option maxHeartbeats 400000 in
theorem spec_l1End (o l m : Int) (w : World) (h0 : 0 ≤ l) (h1 : l ≤ 10) :
    Calls Try.prog 87 #[sv o l m] w fun e w' => e = .returned (.int .i64 (Sx.two l + 1)) ∧ Below w.heap.size w w' := by
  have b1 := Sx.two_pos l
  have b2 := Sx.two_lit h1
  go_enter Try.func87, Try.ntmps87
  go_wp2_with (go_at_call 98; refine (spec_l1Two _ _ h0 h1).mono ?_; rintro e w' ⟨rfl, rfl⟩)
  go_ret
  exact ⟨rfl, (by repeat' (first | exact Below.refl _ _ | assumption | exact Nat.le_refl _ | apply Below.alloc | apply Below.drew | (focus (simp; done)) | (focus (simp; omega)) | omega))⟩

set_option maxHeartbeats 400000 in
theorem impl_EndCode (o l m : Int) (w : World) :
    Calls Try.prog 34 #[sv o l m] w fun e w' => e = .returned (.int .i64 (Sx.endI o l m)) ∧ Below w.heap.size w w' := by
  by_cases hv : Sx.setOK o l m = true
  · have hy := hide (Sx.end_yes hv)
    have hbd := Sx.setOK_bd hv
    obtain ⟨c1, c2, c3, c4⟩ := hbd
    have b1 := Sx.two_pos l
    have b2 := Sx.two_lit (show l ≤ 10 by omega)
    go_enter Try.func34, Try.ntmps34
    go_wp2_with fail
    refine (impl_SettingValid _ _ _ _).mono ?_; rintro e w1 ⟨rfl, hb1⟩
    have hz1 := size_of_alloc hb1
    have hc1 := keepCell hb1 (g := w.heap.size) (by simp)
    go_wp2_with fail
    go_ret
    exact ⟨ret_int ((by rw [wrap_two (show l ≤ 10 by omega)]; exact IntWalk.wrap64_in _ ⟨by omega, by omega⟩ : wrap64 (wrap64 (2 ^ l.toNat) + 1) = Sx.two l + 1).trans hy.out.symm), (((Below.refl _ _).alloc (Nat.le_refl _) _).trans (hb1.mono (by simp)))⟩
  · have hv : Sx.setOK o l m = false := by simpa using hv
    have hy := hide (Sx.end_no hv)
    go_enter Try.func34, Try.ntmps34
    go_wp2_with fail
    refine (impl_SettingValid _ _ _ _).mono ?_; rintro e w1 ⟨rfl, hb1⟩
    go_wp2_with fail
    go_ret
    exact ⟨ret_int hy.out.symm, (((Below.refl _ _).alloc (Nat.le_refl _) _).trans (hb1.mono (by simp)))⟩

set_option maxHeartbeats 400000 in
theorem spec_l1Last (o l m : Int) (w : World) (h0 : 0 ≤ m) (h1 : m ≤ 10) :
    Calls Try.prog 95 #[sv o l m] w fun e w' => e = .returned (.int .i64 (Sx.two m - 1)) ∧ Below w.heap.size w w' := by
  have b1 := Sx.two_pos m
  have b2 := Sx.two_lit h1
  go_enter Try.func95, Try.ntmps95
  go_wp2_with (go_at_call 98; refine (spec_l1Two _ _ h0 h1).mono ?_; rintro e w' ⟨rfl, rfl⟩)
  go_ret
  exact ⟨rfl, (by repeat' (first | exact Below.refl _ _ | assumption | exact Nat.le_refl _ | apply Below.alloc | apply Below.drew | (focus (simp; done)) | (focus (simp; omega)) | omega))⟩

set_option maxHeartbeats 400000 in
theorem impl_LastCode (o l m : Int) (w : World) :
    Calls Try.prog 50 #[sv o l m] w fun e w' => e = .returned (.int .i64 (Sx.lastI o l m)) ∧ Below w.heap.size w w' := by
  by_cases hv : Sx.setOK o l m = true
  · have hy := hide (Sx.last_yes hv)
    have hbd := Sx.setOK_bd hv
    obtain ⟨c1, c2, c3, c4⟩ := hbd
    have b1 := Sx.two_pos m
    have b2 := Sx.two_lit (show m ≤ 10 by omega)
    go_enter Try.func50, Try.ntmps50
    go_wp2_with fail
    refine (impl_SettingValid _ _ _ _).mono ?_; rintro e w1 ⟨rfl, hb1⟩
    have hz1 := size_of_alloc hb1
    have hc1 := keepCell hb1 (g := w.heap.size) (by simp)
    go_wp2_with fail
    go_ret
    exact ⟨ret_int ((by rw [wrap_two (show m ≤ 10 by omega)]; exact IntWalk.wrap64_in _ ⟨by omega, by omega⟩ : wrap64 (wrap64 (2 ^ m.toNat) - 1) = Sx.two m - 1).trans hy.out.symm), (((Below.refl _ _).alloc (Nat.le_refl _) _).trans (hb1.mono (by simp)))⟩
  · have hv : Sx.setOK o l m = false := by simpa using hv
    have hy := hide (Sx.last_no hv)
    go_enter Try.func50, Try.ntmps50
    go_wp2_with fail
    refine (impl_SettingValid _ _ _ _).mono ?_; rintro e w1 ⟨rfl, hb1⟩
    go_wp2_with fail
    go_ret
    exact ⟨ret_int hy.out.symm, (((Below.refl _ _).alloc (Nat.le_refl _) _).trans (hb1.mono (by simp)))⟩
end Go.Proofs.Ytegfcpdkehgdpaa

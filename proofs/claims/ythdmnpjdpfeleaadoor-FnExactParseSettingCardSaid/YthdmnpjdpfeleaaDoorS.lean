/- The walks of SettingValid and what converts settings. Conditions: each field is an int. -/
import Derived.Test.YthdmnpjdpfeleaaDoorA
namespace Go.Proofs.YthdmnpjdpfeleaaDoor
open Go.RowKit

set_option maxHeartbeats 400000 in
theorem spec_l1Order (o : Int) (w : World) :
    Calls Tryd.prog 26 #[.int .i64 o] w fun e w' => e = .returned (.bool (Sx.ordOK o)) ∧ w = w' := by
  by_cases h0 : o = 0
  · subst h0
    go_enter Tryd.func26, Tryd.ntmps26
    go_wp2
    go_ret
    exact ⟨rfl, rfl⟩
  · by_cases h1 : o = 1
    · subst h1
      go_enter Tryd.func26, Tryd.ntmps26
      go_wp2
      go_ret
      exact ⟨rfl, rfl⟩
    · have e0 : (o == 0) = false := by simpa using h0
      have e1 : (o == 1) = false := by simpa using h1
      have e2 := hide (show Sx.ordOK o = false by simp [Sx.ordOK, h0, h1])
      go_enter Tryd.func26, Tryd.ntmps26
      go_wp2
      go_ret
      exact ⟨ret_bool e2.out.symm, rfl⟩

set_option maxHeartbeats 400000 in
theorem spec_l1In (n a b : Int) (w : World) :
    Calls Tryd.prog 27 #[.int .i64 n, .int .i64 a, .int .i64 b] w fun e w' => e = .returned (.bool (decide (a ≤ n) && decide (n ≤ b))) ∧ w = w' := by
  by_cases h0 : a ≤ n <;> by_cases h1 : n ≤ b
  all_goals
    go_enter Tryd.func27, Tryd.ntmps27
    go_wp2
    go_ret
    exact ⟨ret_bool (by simp [h0, h1]), rfl⟩

theorem Sx.setOK_of {o l m : Int} (h0 : o = 0 ∨ o = 1) (h1 : 1 ≤ l) (h2 : l ≤ 8) (h3 : l + 2 ≤ m) (h4 : m ≤ 10) : Sx.setOK o l m = true := by
  unfold Sx.setOK; exact decide_eq_true ⟨h0, h1, h2, h3, h4⟩

theorem Sx.setOK_ord {o l m : Int} (h : Sx.ordOK o = false) : Sx.setOK o l m = false := by
  simp only [Sx.ordOK, decide_eq_false_iff_not] at h; simp only [Sx.setOK, decide_eq_false_iff_not]; omega
theorem Sx.setOK_lit {o l m : Int} (h : ¬ (1 ≤ l ∧ l ≤ 8)) : Sx.setOK o l m = false := by
  simp only [Sx.setOK, decide_eq_false_iff_not]; omega
theorem Sx.setOK_most {o l m : Int} (h : ¬ (l + 2 ≤ m)) : Sx.setOK o l m = false := by
  simp only [Sx.setOK, decide_eq_false_iff_not]; omega
theorem Sx.setOK_rest {o l m : Int} (h : Sx.ordOK o = true) (h1 : 1 ≤ l) (h2 : l ≤ 8) : (decide (l + 2 ≤ m) && decide (m ≤ 10)) = Sx.setOK o l m := by
  simp only [Sx.ordOK, decide_eq_true_iff] at h
  rw [Bool.eq_iff_iff]; simp only [Sx.setOK, Bool.and_eq_true, decide_eq_true_iff]
  exact ⟨fun hh => ⟨h, h1, h2, hh.1, hh.2⟩, fun hh => ⟨hh.2.2.2.1, hh.2.2.2.2⟩⟩

/-- The argument box of a function that takes a setting. -/
abbrev sv (o l m : Int) : Value := .agg #[.int .i64 o, .int .i64 l, .int .i64 m]

set_option maxHeartbeats 1000000 in
theorem spec_SettingValid (o l m : Int) (w : World) :
    Calls Tryd.prog 15 #[sv o l m] w fun e w' => e = .returned (.bool (Sx.setOK o l m)) ∧ Below w.heap.size w w' := by
  by_cases h0 : Sx.ordOK o = true
  · by_cases h1 : 1 ≤ l ∧ l ≤ 8
    · obtain ⟨h1, h2⟩ := h1
      have hq : (decide (1 ≤ l) && decide (l ≤ 8)) = true := by simp [h1, h2]
      have hf := hide (Sx.setOK_rest (m := m) h0 h1 h2)
      go_enter Tryd.func15, Tryd.ntmps15
      go_wp2_with (first | (go_at_call 26; refine (spec_l1Order _ _).mono ?_; rintro e w' ⟨rfl, rfl⟩) | (go_at_call 27; refine (spec_l1In _ _ _ _).mono ?_; rintro e w' ⟨rfl, rfl⟩))
      go_ret
      exact ⟨ret_bool hf.out, (Below.refl _ _).alloc (Nat.le_refl _) _⟩
    · have hq : (decide (1 ≤ l) && decide (l ≤ 8)) = false := by simp; omega
      have hf := hide (Sx.setOK_lit (o := o) (m := m) h1)
      go_enter Tryd.func15, Tryd.ntmps15
      go_wp2_with (first | (go_at_call 26; refine (spec_l1Order _ _).mono ?_; rintro e w' ⟨rfl, rfl⟩) | (go_at_call 27; refine (spec_l1In _ _ _ _).mono ?_; rintro e w' ⟨rfl, rfl⟩))
      go_ret
      exact ⟨ret_bool hf.out.symm, (Below.refl _ _).alloc (Nat.le_refl _) _⟩
  · have h0 : Sx.ordOK o = false := by simpa using h0
    have hf := hide (Sx.setOK_ord (l := l) (m := m) h0)
    go_enter Tryd.func15, Tryd.ntmps15
    go_wp2_with (first | (go_at_call 26; refine (spec_l1Order _ _).mono ?_; rintro e w' ⟨rfl, rfl⟩) | (go_at_call 27; refine (spec_l1In _ _ _ _).mono ?_; rintro e w' ⟨rfl, rfl⟩))
    go_ret
    exact ⟨ret_bool hf.out.symm, (Below.refl _ _).alloc (Nat.le_refl _) _⟩

set_option maxHeartbeats 400000 in
theorem impl_orderValid (o : Int) (w : World) :
    Calls Tryd.prog 21 #[.int .i64 o] w fun e w' => e = .returned (.bool (Sx.ordOK o)) ∧ w = w' := by
  by_cases h0 : o = 0
  · subst h0
    go_enter Tryd.func21, Tryd.ntmps21
    go_wp2
    go_ret
    exact ⟨rfl, rfl⟩
  · by_cases h1 : o = 1
    · subst h1
      go_enter Tryd.func21, Tryd.ntmps21
      go_wp2
      go_ret
      exact ⟨rfl, rfl⟩
    · have e0 : (o == 0) = false := by simpa using h0
      have e1 : (o == 1) = false := by simpa using h1
      have e2 := hide (show Sx.ordOK o = false by simp [Sx.ordOK, h0, h1])
      go_enter Tryd.func21, Tryd.ntmps21
      go_wp2
      go_ret
      exact ⟨ret_bool e2.out.symm, rfl⟩

set_option maxHeartbeats 1000000 in
theorem impl_SettingValid (o l m : Int) (w : World) :
    Calls Tryd.prog 13 #[sv o l m] w fun e w' => e = .returned (.bool (Sx.setOK o l m)) ∧ Below w.heap.size w w' := by
  by_cases h0 : Sx.ordOK o = true
  · by_cases h1 : 1 ≤ l
    · by_cases h2 : l ≤ 8
      · by_cases h3 : l + 2 ≤ m
        · have hf := hide (Sx.setOK_rest (m := m) h0 h1 h2)
          go_enter Tryd.func13, Tryd.ntmps13
          go_wp2_with (first | (go_at_call 21; refine (impl_orderValid _ _).mono ?_; rintro e w' ⟨rfl, rfl⟩))
          go_ret
          exact ⟨ret_bool (by rw [← hf.out]; simp [h3]), (Below.refl _ _).alloc (Nat.le_refl _) _⟩
        · have hf := hide (Sx.setOK_most (o := o) (l := l) (m := m) h3)
          go_enter Tryd.func13, Tryd.ntmps13
          go_wp2_with (first | (go_at_call 21; refine (impl_orderValid _ _).mono ?_; rintro e w' ⟨rfl, rfl⟩))
          go_ret
          exact ⟨ret_bool hf.out.symm, (Below.refl _ _).alloc (Nat.le_refl _) _⟩
      · have hf := hide (Sx.setOK_lit (o := o) (l := l) (m := m) (by omega))
        go_enter Tryd.func13, Tryd.ntmps13
        go_wp2_with (first | (go_at_call 21; refine (impl_orderValid _ _).mono ?_; rintro e w' ⟨rfl, rfl⟩))
        go_ret
        exact ⟨ret_bool hf.out.symm, (Below.refl _ _).alloc (Nat.le_refl _) _⟩
    · have hf := hide (Sx.setOK_lit (o := o) (l := l) (m := m) (by omega))
      go_enter Tryd.func13, Tryd.ntmps13
      go_wp2_with (first | (go_at_call 21; refine (impl_orderValid _ _).mono ?_; rintro e w' ⟨rfl, rfl⟩))
      go_ret
      exact ⟨ret_bool hf.out.symm, (Below.refl _ _).alloc (Nat.le_refl _) _⟩
  · have h0 : Sx.ordOK o = false := by simpa using h0
    have hf := hide (Sx.setOK_ord (l := l) (m := m) h0)
    go_enter Tryd.func13, Tryd.ntmps13
    go_wp2_with (first | (go_at_call 21; refine (impl_orderValid _ _).mono ?_; rintro e w' ⟨rfl, rfl⟩))
    go_ret
    exact ⟨ret_bool hf.out.symm, (Below.refl _ _).alloc (Nat.le_refl _) _⟩

end Go.Proofs.YthdmnpjdpfeleaaDoor

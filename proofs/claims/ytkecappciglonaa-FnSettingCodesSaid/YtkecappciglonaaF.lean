/- The walks of CodeBits, bitsNumber, l1Number, BitsCode, ReverseBits. Conditions: each argument is a value of its type. -/
import Derived.Test.YtkecappciglonaaE
import Derived.Test.YtkecappciglonaaPnum
import Derived.Test.YtkecappciglonaaB
import Derived.Test.YtkecappciglonaaS
namespace Go.Proofs.Ytkecappciglonaa
open Go.RowKit

/-- CodeBits. -/
def Sx.codeOK (o n wd : Int) : Bool := decide ((o = 0 ∨ o = 1) ∧ 1 ≤ wd ∧ wd ≤ 10 ∧ 0 ≤ n ∧ n < Sx.two wd)
def Sx.cbS (o n wd : Int) : ByteArray := if Sx.codeOK o n wd = true then str (Sx.cbits (Sx.hiOf o) n.toNat wd.toNat) else str []
theorem Sx.code_yes {o n wd : Int} (h : Sx.codeOK o n wd = true) : Sx.cbS o n wd = str (Sx.cbits (Sx.hiOf o) n.toNat wd.toNat) := if_pos h
theorem Sx.code_no {o n wd : Int} (h : Sx.codeOK o n wd = false) : Sx.cbS o n wd = str [] := if_neg (by simp [h])
theorem Sx.code_bd {o n wd : Int} (h : Sx.codeOK o n wd = true) : (o = 0 ∨ o = 1) ∧ 1 ≤ wd ∧ wd ≤ 10 ∧ 0 ≤ n ∧ n < Sx.two wd := by simpa [Sx.codeOK] using h
theorem Sx.code_ord {o n wd : Int} (h : Sx.ordOK o = false) : Sx.codeOK o n wd = false := by
  simp only [Sx.ordOK, decide_eq_false_iff_not] at h; simp only [Sx.codeOK, decide_eq_false_iff_not]; exact fun hh => h hh.1
theorem Sx.code_wd {o n wd : Int} (h : ¬ (1 ≤ wd ∧ wd ≤ 10)) : Sx.codeOK o n wd = false := by
  simp only [Sx.codeOK, decide_eq_false_iff_not]; exact fun hh => h ⟨hh.2.1, hh.2.2.1⟩
theorem Sx.code_num {o n wd : Int} (h : ¬ (0 ≤ n ∧ n < Sx.two wd)) : Sx.codeOK o n wd = false := by
  simp only [Sx.codeOK, decide_eq_false_iff_not]; exact fun hh => h ⟨hh.2.2.2.1, hh.2.2.2.2⟩
theorem Sx.code_mk {o n wd : Int} (h : Sx.ordOK o = true) (h1 : 1 ≤ wd) (h2 : wd ≤ 10) (h3 : 0 ≤ n) (h4 : n < Sx.two wd) : Sx.codeOK o n wd = true := by
  simp only [Sx.ordOK, decide_eq_true_iff] at h; simp only [Sx.codeOK, decide_eq_true_iff]; exact ⟨h, h1, h2, h3, h4⟩
theorem Sx.ord_of {o : Int} (h : Sx.ordOK o = true) : o = 0 ∨ o = 1 := by simpa [Sx.ordOK] using h
theorem ret2 {a a' b b' : Value} (h1 : a = a') (h2 : b = b') : Ending.returned (.tuple #[a, b]) = .returned (.tuple #[a', b']) := by rw [h1, h2]
theorem vstr {a b : ByteArray} (h : a = b) : Value.string a = .string b := by rw [h]
theorem vbool {a b : Bool} (h : a = b) : Value.bool a = .bool b := by rw [h]
theorem vint {k : IntKind} {a b : Int} (h : a = b) : Value.int k a = .int k b := by rw [h]

set_option maxHeartbeats 1000000 in
theorem spec_CodeBits (o n wd : Int) (w : World) :
    Calls Try.prog 26 #[.int .i64 o, .int .i64 n, .int .i64 wd] w fun e w' => e = .returned (.tuple #[.string (Sx.cbS o n wd), .bool (Sx.codeOK o n wd)]) ∧ Below w.heap.size w w' := by
  by_cases h0 : Sx.ordOK o = true
  · by_cases h1 : 1 ≤ wd ∧ wd ≤ 10
    · have hq : (decide (1 ≤ wd) && decide (wd ≤ 10)) = true := by simp [h1]
      obtain ⟨c1, c2⟩ := h1
      by_cases h3 : 0 ≤ n
      · by_cases h4 : n < Sx.two wd
        · have HO := hide (Sx.code_mk h0 c1 c2 h3 h4)
          have ho := hide (Sx.ord_of h0)
          have ht := Sx.two_lit c2
          obtain ⟨N, rfl⟩ := Int.eq_ofNat_of_zero_le h3
          obtain ⟨D, rfl⟩ := Int.eq_ofNat_of_zero_le (show 0 ≤ wd by omega)
          have hy := hide (Sx.code_yes HO.out)
          go_enter Try.func26, Try.ntmps26
          go_wp2_with (first
            | (go_at_call 78; refine (spec_l1Order _ _).mono ?_; rintro e w' ⟨rfl, rfl⟩)
            | (go_at_call 79; refine (spec_l1In _ _ _ _).mono ?_; rintro e w' ⟨rfl, rfl⟩)
            | (go_at_call 76; refine (spec_l1Two _ _ (by omega) (by omega)).mono ?_; rintro e w' ⟨rfl, rfl⟩)
            | (go_at_call 73; refine (spec_l1Code _ _ _ _ ho.out (by omega) (by omega)).mono ?_; rintro e w1 ⟨rfl, hb1⟩))
          go_ret2
          exact ⟨ret2 (vstr hy.out.symm) (vbool HO.out.symm), hb1⟩
        · have HO := hide (Sx.code_num (o := o) (wd := wd) (n := n) (by omega))
          have hy := hide (Sx.code_no HO.out)
          go_enter Try.func26, Try.ntmps26
          go_wp2_with (first
            | (go_at_call 78; refine (spec_l1Order _ _).mono ?_; rintro e w' ⟨rfl, rfl⟩)
            | (go_at_call 79; refine (spec_l1In _ _ _ _).mono ?_; rintro e w' ⟨rfl, rfl⟩)
            | (go_at_call 76; refine (spec_l1Two _ _ (by omega) (by omega)).mono ?_; rintro e w' ⟨rfl, rfl⟩))
          go_ret2
          exact ⟨ret2 (vstr hy.out.symm) (vbool HO.out.symm), Below.refl _ _⟩
      · have HO := hide (Sx.code_num (o := o) (wd := wd) (n := n) (by omega))
        have hy := hide (Sx.code_no HO.out)
        go_enter Try.func26, Try.ntmps26
        go_wp2_with (first
          | (go_at_call 78; refine (spec_l1Order _ _).mono ?_; rintro e w' ⟨rfl, rfl⟩)
          | (go_at_call 79; refine (spec_l1In _ _ _ _).mono ?_; rintro e w' ⟨rfl, rfl⟩))
        go_ret2
        exact ⟨ret2 (vstr hy.out.symm) (vbool HO.out.symm), Below.refl _ _⟩
    · have hq : (decide (1 ≤ wd) && decide (wd ≤ 10)) = false := by simp; omega
      have HO := hide (Sx.code_wd (o := o) (n := n) h1)
      have hy := hide (Sx.code_no HO.out)
      go_enter Try.func26, Try.ntmps26
      go_wp2_with (first
        | (go_at_call 78; refine (spec_l1Order _ _).mono ?_; rintro e w' ⟨rfl, rfl⟩)
        | (go_at_call 79; refine (spec_l1In _ _ _ _).mono ?_; rintro e w' ⟨rfl, rfl⟩))
      go_ret2
      exact ⟨ret2 (vstr hy.out.symm) (vbool HO.out.symm), Below.refl _ _⟩
  · have h0 : Sx.ordOK o = false := by simpa using h0
    have HO := hide (Sx.code_ord (n := n) (wd := wd) h0)
    have hy := hide (Sx.code_no HO.out)
    go_enter Try.func26, Try.ntmps26
    go_wp2_with (first
      | (go_at_call 78; refine (spec_l1Order _ _).mono ?_; rintro e w' ⟨rfl, rfl⟩))
    go_ret2
    exact ⟨ret2 (vstr hy.out.symm) (vbool HO.out.symm), Below.refl _ _⟩

theorem two_cmp {n wd : Int} (h : wd ≤ 10) (b : Bool) (hb : decide (Sx.two wd ≤ n) = b) : decide (wrap64 (2 ^ wd.toNat) ≤ n) = b := by rw [wrap_two h]; exact hb

set_option maxHeartbeats 1000000 in
theorem impl_CodeBits (o n wd : Int) (w : World) :
    Calls Try.prog 25 #[.int .i64 o, .int .i64 n, .int .i64 wd] w fun e w' => e = .returned (.tuple #[.string (Sx.cbS o n wd), .bool (Sx.codeOK o n wd)]) ∧ Below w.heap.size w w' := by
  by_cases h0 : Sx.ordOK o = true
  · by_cases c1 : 1 ≤ wd
    · by_cases c2 : wd ≤ 10
      · by_cases h3 : 0 ≤ n
        · by_cases h4 : n < Sx.two wd
          · have HO := hide (Sx.code_mk h0 c1 c2 h3 h4)
            have ho := hide (Sx.ord_of h0)
            have ht := Sx.two_lit c2
            obtain ⟨N, rfl⟩ := Int.eq_ofNat_of_zero_le h3
            obtain ⟨D, rfl⟩ := Int.eq_ofNat_of_zero_le (show 0 ≤ wd by omega)
            have hy := hide (Sx.code_yes HO.out)
            have hd := two_cmp (n := (N : Int)) c2 false (by simp; omega)
            rw [Int.toNat_natCast] at hd
            go_enter Try.func25, Try.ntmps25
            go_wp2_with (first
              | (go_at_call 74; refine (impl_orderValid _ _).mono ?_; rintro e w' ⟨rfl, rfl⟩)
              | (go_at_call 77; refine (impl_appendBits _ _ _ _ w.heap.size [] _ ho.out (by omega) (by omega) (by simp) (World.ownsRow_nil w _ _ _) (Nat.le_refl _)).mono ?_; rintro e w1 ⟨v1, rfl, hrow, hb1⟩; have hcv := run_own_string (P := Try.prog) w1 22 9 5 Try.underlying22 Try.underlying5 Try.underlying9 hrow))
            go_ret2
            exact ⟨ret2 (vstr hy.out.symm) (vbool HO.out.symm), hb1⟩
          · have HO := hide (Sx.code_num (o := o) (wd := wd) (n := n) (by omega))
            have hy := hide (Sx.code_no HO.out)
            have hd := two_cmp (n := n) c2 true (by simp; omega)
            go_enter Try.func25, Try.ntmps25
            go_wp2_with (first
              | (go_at_call 74; refine (impl_orderValid _ _).mono ?_; rintro e w' ⟨rfl, rfl⟩))
            go_ret2
            exact ⟨ret2 (vstr hy.out.symm) (vbool HO.out.symm), Below.refl _ _⟩
        · have HO := hide (Sx.code_num (o := o) (wd := wd) (n := n) (by omega))
          have hy := hide (Sx.code_no HO.out)
          go_enter Try.func25, Try.ntmps25
          go_wp2_with (first
            | (go_at_call 74; refine (impl_orderValid _ _).mono ?_; rintro e w' ⟨rfl, rfl⟩))
          go_ret2
          exact ⟨ret2 (vstr hy.out.symm) (vbool HO.out.symm), Below.refl _ _⟩
      · have HO := hide (Sx.code_wd (o := o) (n := n) (wd := wd) (by omega))
        have hy := hide (Sx.code_no HO.out)
        go_enter Try.func25, Try.ntmps25
        go_wp2_with (first
          | (go_at_call 74; refine (impl_orderValid _ _).mono ?_; rintro e w' ⟨rfl, rfl⟩))
        go_ret2
        exact ⟨ret2 (vstr hy.out.symm) (vbool HO.out.symm), Below.refl _ _⟩
    · have HO := hide (Sx.code_wd (o := o) (n := n) (wd := wd) (by omega))
      have hy := hide (Sx.code_no HO.out)
      go_enter Try.func25, Try.ntmps25
      go_wp2_with (first
        | (go_at_call 74; refine (impl_orderValid _ _).mono ?_; rintro e w' ⟨rfl, rfl⟩))
      go_ret2
      exact ⟨ret2 (vstr hy.out.symm) (vbool HO.out.symm), Below.refl _ _⟩
  · have h0 : Sx.ordOK o = false := by simpa using h0
    have HO := hide (Sx.code_ord (n := n) (wd := wd) h0)
    have hy := hide (Sx.code_no HO.out)
    go_enter Try.func25, Try.ntmps25
    go_wp2_with (first
      | (go_at_call 74; refine (impl_orderValid _ _).mono ?_; rintro e w' ⟨rfl, rfl⟩))
    go_ret2
    exact ⟨ret2 (vstr hy.out.symm) (vbool HO.out.symm), Below.refl _ _⟩
end Go.Proofs.Ytkecappciglonaa

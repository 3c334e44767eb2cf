/- The walks of l9Many, l1Pad, l1Pack, PackBits, PadBits. Conditions: each argument is a value of its type; lengths as the callers have them. -/
import Derived.Test.YtkecappciglonaaJ
import Derived.Test.YtkecappciglonaaShelf
import Derived.Test.YtkecappciglonaaE
namespace Go.Proofs.Ytkecappciglonaa
open Go.RowKit

theorem str_add {a b : List UInt8} (h : a.length + b.length ≤ 9223372036854775807) : (str a).size + (str b).size ≤ 9223372036854775807 := by rw [str_size, str_size]; exact h

set_option maxRecDepth 100000 in
set_option maxHeartbeats 1000000 in
theorem spec_l9Many (l : List UInt8) (n : Nat) (w : World) (hb : (n + 1) * l.length ≤ 4000000) (hn : n ≤ 4000000) :
    Calls Try.prog 95 #[.string (str l), .int .i64 n] w fun e w' => e = .returned (.string (str (Sx.rep n l))) ∧ w = w' := by
  have hbn : n * l.length ≤ 4000000 := Nat.le_trans (Nat.mul_le_mul_right _ (Nat.le_succ n)) hb
  have hbl : l.length ≤ 4000000 := Nat.le_trans (Nat.le_mul_of_pos_left _ (Nat.succ_pos n)) hb
  have HB := hide hbn
  clear hb hbn
  go_enter Try.func95, Try.ntmps95
  go_wp2_with fail
  go_loop [0, 1, 5] (fun s q u => ∃ (k : Nat) (m o : List UInt8), s = .string (str m) ∧ q = .int .i64 k ∧ u = .string (str o) ∧ k ≤ 4000000 ∧ m.length ≤ 8000000 ∧ Hid (o ++ Sx.rep k m = Sx.rep n l)) (fun _ q _ => (intOf q).toNat)
  case atStart => exact ⟨n, l, [], rfl, rfl, rfl, hn, by omega, rfl⟩
  case round =>
    obtain ⟨k, m, o, rfl, rfl, rfl, hk, hml, he⟩ := hrel
    have HL := hide (show o.length + k * m.length = n * l.length by rw [← Sx.rep_length n l, ← he.out, List.length_append, Sx.rep_length])
    by_cases h0 : 0 < k
    · have hm1 : m.length ≤ 4000000 := by
        have h1 : m.length ≤ k * m.length := Nat.le_mul_of_pos_left _ h0
        have := HL.out; have := HB.out; omega
      have ho1 : o.length ≤ 4000000 := by have := HL.out; have := HB.out; omega
      have hs1 := str_add (a := m) (b := m) (by omega)
      by_cases h1 : k % 2 = 1
      · have ht : (((k : Int) % 2) == 1) = true := by rw [beq_iff_eq]; omega
        have hs2 := str_add (a := o) (b := m) (by omega)
        have HR := hide (Sx.rep_odd m h1)
        clear h1
        go_wp2_with fail
        go_round
        case rel => exact ⟨k / 2, m ++ m, o ++ m, vstr (str_append _ _), by go_num, vstr (str_append _ _), by omega, by rw [List.length_append]; omega, by show _ = _; rw [List.append_assoc, HR.out]; exact he.out⟩
        case measure => simp [intOf]; omega
      · have ht : (((k : Int) % 2) == 1) = false := by rw [beq_eq_false_iff_ne]; omega
        have HR := hide (Sx.rep_even (n := k) m (by omega))
        clear h1
        go_wp2_with fail
        go_round
        case rel => exact ⟨k / 2, m ++ m, o, vstr (str_append _ _), by go_num, rfl, by omega, by rw [List.length_append]; omega, by show _ = _; rw [HR.out]; exact he.out⟩
        case measure => simp [intOf]; omega
    · have hk0 : k = 0 := by omega
      subst hk0
      have HE := hide (show o = Sx.rep n l by have := he.out; rwa [Sx.rep_zero, List.append_nil] at this)
      go_wp2_with fail
      go_ret
      exact ⟨ret_str (by rw [HE.out]), rfl⟩

theorem rep_zeros (n : Nat) : Sx.rep n [48] = List.replicate n 48 := Sx.rep_one n 48

/-- The number of zeros that are missing. -/
theorem miss_int (n : Nat) : -((n : Int) % 8) % 8 = (((8 - n % 8) % 8 : Nat) : Int) := by omega

set_option maxRecDepth 100000 in
set_option maxHeartbeats 1000000 in
theorem spec_l1Pad (s : ByteArray) (w : World) (hs : s.size ≤ 1000000) :
    Calls Try.prog 103 #[.string s] w fun e w' => e = .returned (.string (str (Sx.padL s.data.toList))) ∧ w = w' := by
  have HP := hide (show str (Sx.padL s.data.toList) = s ++ str (Sx.rep ((8 - s.size % 8) % 8) [48]) by
    rw [rep_zeros, Sx.padL, Sx.len_bytes, ← str_append, str_self])
  have C := fun wx => spec_l9Many [48] ((8 - s.size % 8) % 8) wx (by simp; omega) (by omega)
  rw [← miss_int] at C
  have C := hide C
  have hz : (str (Sx.rep ((8 - s.size % 8) % 8) [48])).size ≤ 7 := by rw [str_size, Sx.rep_length]; simp; omega
  go_enter Try.func103, Try.ntmps103
  go_wp2_with fail
  refine (unhide C _).mono ?_; rintro e w1 ⟨rfl, rfl⟩
  clear C
  have hsum : s.size + (str (Sx.rep ((8 - s.size % 8) % 8) [48])).size ≤ 9223372036854775807 := by omega
  go_wp2_with fail
  go_ret
  exact ⟨ret_str HP.out.symm, rfl⟩

/-- PackBits. -/
def Sx.packOK (o : Int) (s : ByteArray) : Bool := Sx.ordOK o && Sx.bitsValid s
def Sx.packS (o : Int) (s : ByteArray) : ByteArray := if Sx.packOK o s = true then str (Sx.packL (Sx.hiOf o) s.data.toList) else str []
theorem Sx.pack_yes {o : Int} {s : ByteArray} (h : Sx.packOK o s = true) : Sx.packS o s = str (Sx.packL (Sx.hiOf o) s.data.toList) := if_pos h
theorem Sx.pack_no {o : Int} {s : ByteArray} (h : Sx.packOK o s = false) : Sx.packS o s = str [] := if_neg (by simp [h])
theorem Sx.pack_ord {o : Int} {s : ByteArray} (h : Sx.ordOK o = false) : Sx.packOK o s = false := by simp [Sx.packOK, h]
theorem Sx.pack_val {o : Int} {s : ByteArray} (h : Sx.bitsValid s = false) : Sx.packOK o s = false := by simp [Sx.packOK, h]
theorem Sx.pack_mk {o : Int} {s : ByteArray} (h : Sx.ordOK o = true) (h1 : Sx.bitsValid s = true) : Sx.packOK o s = true := by simp [Sx.packOK, h, h1]

set_option maxRecDepth 100000 in
set_option maxHeartbeats 1000000 in
theorem impl_PackBits (o : Int) (s : ByteArray) (w : World) (hm : s.size ≤ 9223372036854775807) :
    Calls Try.prog 53 #[.int .i64 o, .string s] w fun e w' => e = .returned (.tuple #[.string (Sx.packS o s), .bool (Sx.packOK o s)]) ∧ Below w.heap.size w w' := by
  by_cases h0 : Sx.ordOK o = true
  · by_cases h1 : Sx.bitsValid s = true
    · have HO := hide (Sx.pack_mk h0 h1)
      have hy := hide (Sx.pack_yes HO.out)
      have ho := hide (Sx.ord_of h0)
      have hl := Sx.valid_len h1
      go_enter Try.func53, Try.ntmps53
      go_wp2_with (first
        | (go_at_call 74; refine (impl_orderValid _ _).mono ?_; rintro e w' ⟨rfl, rfl⟩)
        | (go_at_call 28; refine (impl_BitsValid _ _ hm).mono ?_; rintro e w' ⟨rfl, rfl⟩)
        | (go_at_call 96; refine (impl_packBytes _ _ _ ho.out (by omega)).mono ?_; rintro e w1 ⟨rfl, hb1⟩))
      go_ret2
      exact ⟨ret2 (vstr hy.out.symm) (vbool HO.out.symm), hb1⟩
    · have h1 : Sx.bitsValid s = false := by simpa using h1
      have HO := hide (Sx.pack_val (o := o) h1)
      have hy := hide (Sx.pack_no HO.out)
      go_enter Try.func53, Try.ntmps53
      go_wp2_with (first
        | (go_at_call 74; refine (impl_orderValid _ _).mono ?_; rintro e w' ⟨rfl, rfl⟩)
        | (go_at_call 28; refine (impl_BitsValid _ _ hm).mono ?_; rintro e w' ⟨rfl, rfl⟩))
      go_ret2
      exact ⟨ret2 (vstr hy.out.symm) (vbool HO.out.symm), Below.refl _ _⟩
  · have h0 : Sx.ordOK o = false := by simpa using h0
    have HO := hide (Sx.pack_ord (s := s) h0)
    have hy := hide (Sx.pack_no HO.out)
    go_enter Try.func53, Try.ntmps53
    go_wp2_with (go_at_call 74; refine (impl_orderValid _ _).mono ?_; rintro e w' ⟨rfl, rfl⟩)
    go_ret2
    exact ⟨ret2 (vstr hy.out.symm) (vbool HO.out.symm), Below.refl _ _⟩

/-- PadBits. -/
def Sx.padS (s : ByteArray) : ByteArray := if Sx.bitsValid s = true then str (Sx.padL s.data.toList) else str []
theorem Sx.pad_yes {s : ByteArray} (h : Sx.bitsValid s = true) : Sx.padS s = str (Sx.padL s.data.toList) := if_pos h
theorem Sx.pad_no {s : ByteArray} (h : Sx.bitsValid s = false) : Sx.padS s = str [] := if_neg (by simp [h])

set_option maxRecDepth 100000 in
set_option maxHeartbeats 1000000 in
theorem spec_PadBits (s : ByteArray) (w : World) (hm : s.size ≤ 9223372036854775807) :
    Calls Try.prog 61 #[.string s] w fun e w' => e = .returned (.tuple #[.string (Sx.padS s), .bool (Sx.bitsValid s)]) ∧ w = w' := by
  by_cases h1 : Sx.bitsValid s = true
  · have hy := hide (Sx.pad_yes h1)
    have hl := Sx.valid_len h1
    go_enter Try.func61, Try.ntmps61
    go_wp2_with (first
      | (go_at_call 100; refine (spec_BitsValid _ _ hm).mono ?_; rintro e w' ⟨rfl, rfl⟩)
      | (go_at_call 103; refine (spec_l1Pad _ _ (by omega)).mono ?_; rintro e w' ⟨rfl, rfl⟩))
    go_ret2
    exact ⟨ret2 (vstr hy.out.symm) (vbool h1.symm), rfl⟩
  · have h1 : Sx.bitsValid s = false := by simpa using h1
    have hy := hide (Sx.pad_no h1)
    go_enter Try.func61, Try.ntmps61
    go_wp2_with (go_at_call 100; refine (spec_BitsValid _ _ hm).mono ?_; rintro e w' ⟨rfl, rfl⟩)
    go_ret2
    exact ⟨ret2 (vstr hy.out.symm) (vbool h1.symm), rfl⟩

theorem repeatL_zeros (n : Nat) : Lib.repeatL [48] n = List.replicate n 48 := by
  have := Lib.repeatL_replicate 48 1 n
  simpa using this

set_option maxRecDepth 100000 in
set_option maxHeartbeats 1000000 in
theorem impl_PadBits (s : ByteArray) (w : World) (hm : s.size ≤ 9223372036854775807) :
    Calls Try.prog 60 #[.string s] w fun e w' => e = .returned (.tuple #[.string (Sx.padS s), .bool (Sx.bitsValid s)]) ∧ Below w.heap.size w w' := by
  by_cases h1 : Sx.bitsValid s = true
  · have hy := hide (Sx.pad_yes h1)
    have hl := Sx.valid_len h1
    have HP := hide (show str (Sx.padL s.data.toList) = s ++ str (Lib.repeatL [48] ((8 - s.size % 8) % 8)) by
      rw [repeatL_zeros, Sx.padL, Sx.len_bytes, ← str_append, str_self])
    have C : ∀ wx, Calls Try.prog 102 #[.string (str [48]), .int .i64 (((8 - s.size % 8) % 8 : Nat) : Int)] wx fun e w' => e = .returned (.string (str (Lib.repeatL [48] ((8 - s.size % 8) % 8)))) ∧ Below wx.heap.size wx w' := fun wx => Try.strings_Repeat (str [48]) ((8 - s.size % 8) % 8) wx (by omega) (by rw [str_size]; simp; omega)
    rw [← miss_int] at C
    have C := hide C
    have hz : (str (Lib.repeatL [48] ((8 - s.size % 8) % 8))).size ≤ 7 := by rw [str_size, repeatL_zeros, List.length_replicate]; omega
    go_enter Try.func60, Try.ntmps60
    go_wp2_with (go_at_call 28; refine (impl_BitsValid _ _ hm).mono ?_; rintro e w' ⟨rfl, rfl⟩)
    refine (unhide C _).mono ?_; rintro e w1 ⟨rfl, hb1⟩
    clear C
    have hsum : s.size + (str (Lib.repeatL [48] ((8 - s.size % 8) % 8))).size ≤ 9223372036854775807 := by omega
    go_wp2_with fail
    go_ret2
    exact ⟨ret2 (vstr (by rw [hy.out, HP.out])) (vbool h1.symm), hb1⟩
  · have h1 : Sx.bitsValid s = false := by simpa using h1
    have hy := hide (Sx.pad_no h1)
    go_enter Try.func60, Try.ntmps60
    go_wp2_with (go_at_call 28; refine (impl_BitsValid _ _ hm).mono ?_; rintro e w' ⟨rfl, rfl⟩)
    go_ret2
    exact ⟨ret2 (vstr hy.out.symm) (vbool h1.symm), Below.refl _ _⟩
end Go.Proofs.Ytkecappciglonaa

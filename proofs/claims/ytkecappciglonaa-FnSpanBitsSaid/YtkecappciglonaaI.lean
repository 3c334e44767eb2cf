/- The walks of BitAt and SpanBits. Conditions: each argument is a value of its type. -/
import Derived.Test.YtkecappciglonaaH
namespace Go.Proofs.Ytkecappciglonaa
open Go.RowKit

/-- BitAt. -/
def Sx.atOK (o : Int) (s : ByteArray) (n : Int) : Bool := Sx.streamOK o s && decide (0 ≤ n ∧ n < 8 * (s.size : Int))
def Sx.bitI (o : Int) (s : ByteArray) (n : Int) : Int := if Sx.atOK o s n = true then (if (Sx.unpackL (Sx.hiOf o) s.data.toList).getD n.toNat 48 == 49 then 1 else 0) else -1
theorem Sx.at_stream {o : Int} {s : ByteArray} {n : Int} (h : Sx.streamOK o s = false) : Sx.bitI o s n = -1 := if_neg (by simp [Sx.atOK, h])
theorem Sx.at_no {o : Int} {s : ByteArray} {n : Int} (h : ¬ (0 ≤ n ∧ n < 8 * (s.size : Int))) : Sx.bitI o s n = -1 := by
  have : decide (0 ≤ n ∧ n < 8 * (s.size : Int)) = false := decide_eq_false h
  exact if_neg (by simp only [Sx.atOK, this, Bool.and_false]; exact Bool.false_ne_true)
theorem Sx.un_size (hi : Bool) (s : ByteArray) : (str (Sx.unpackL hi s.data.toList)).size = 8 * s.size := by rw [str_size, Sx.unpackL_length, Sx.len_bytes]
theorem Sx.un_get (hi : Bool) (s : ByteArray) (n : Nat) (h : n < 8 * s.size) : (str (Sx.unpackL hi s.data.toList))[n]'(by rw [Sx.un_size]; exact h) = Sx.bitAt hi 8 (s[n / 8]'(by omega)).toNat (n % 8) := by
  have h2 : n < (Sx.unpackL hi s.data.toList).length := by rw [Sx.unpackL_length, Sx.len_bytes]; exact h
  exact Sx.unpackL_get hi s.data.toList n h2
theorem Sx.at_yes {o : Int} {s : ByteArray} {n : Nat} (h0 : Sx.streamOK o s = true) (h : n < 8 * s.size) {b : Bool} (hb : Sx.bitAt (Sx.hiOf o) 8 (s[n / 8]'(by omega)).toNat (n % 8) = Sx.dig b) : Sx.bitI o s n = if b then 1 else 0 := by
  have h1 : Sx.atOK o s n = true := by simp [Sx.atOK, h0]; omega
  unfold Sx.bitI
  rw [if_pos h1, Int.toNat_natCast]
  have h2 : n < (Sx.unpackL (Sx.hiOf o) s.data.toList).length := by rw [Sx.unpackL_length, Sx.len_bytes]; exact h
  rw [List.getD_eq_getElem?_getD, List.getElem?_eq_getElem h2, Option.getD_some, Sx.unpackL_get]
  have : (s.data.toList[n / 8]'(by rw [Sx.len_bytes]; omega)) = s[n / 8]'(by omega) := rfl
  rw [this, hb, Sx.dig_one]
theorem Sx.dig_val (b : Bool) : ((Sx.dig b).toNat : Int) = 48 + if b then 1 else 0 := by cases b <;> rfl
theorem Sx.cb_get (hi : Bool) (n i : Nat) (h : i < 8) : (str (Sx.cbits hi n 8))[i]'(by rw [str_size, Sx.cbits_length]; exact h) = Sx.bitAt hi 8 n i := Sx.cbits_get hi n 8 i h

set_option maxHeartbeats 1000000 in
theorem impl_BitAt (o : Int) (s : ByteArray) (n : Int) (w : World) (hm : s.size ≤ 9223372036854775807) :
    Calls Try.prog 21 #[.int .i64 o, .string s, .int .i64 n] w fun e w' => e = .returned (.int .i64 (Sx.bitI o s n)) ∧ Below w.heap.size w w' := by
  by_cases h0 : Sx.streamOK o s = true
  · have hu := hide (Sx.ub_yes h0)
    have hz := hide (Sx.un_size (Sx.hiOf o) s)
    have hs := (Sx.stream_of h0).2
    by_cases h1 : 0 ≤ n
    · obtain ⟨N, rfl⟩ := Int.eq_ofNat_of_zero_le h1
      by_cases h2 : N < 8 * s.size
      · obtain ⟨b, hb⟩ : ∃ b, Sx.bitAt (Sx.hiOf o) 8 (s[N / 8]'(by omega)).toNat (N % 8) = Sx.dig b := ⟨_, rfl⟩
        have hr := hide (Sx.at_yes h0 h2 hb)
        have hg := hide ((Sx.un_get (Sx.hiOf o) s N h2).trans hb)
        clear hb
        go_enter Try.func21, Try.ntmps21
        go_wp2_with fail
        refine (impl_UnpackBits _ _ _ hm).mono ?_; rintro e w1 ⟨rfl, hb1⟩
        rw [h0, hu.out]
        have h3 : N < (str (Sx.unpackL (Sx.hiOf o) s.data.toList)).size := by rw [hz.out]; exact h2
        have hv : ((str (Sx.unpackL (Sx.hiOf o) s.data.toList))[N].toNat : Int) = 48 + if b then 1 else 0 := by rw [hg.out]; exact Sx.dig_val b
        cases b
        · simp only [Bool.false_eq_true, if_false, Int.add_zero] at hv
          go_wp2_with fail
          go_ret
          exact ⟨ret_int hr.out.symm, hb1⟩
        · simp only [if_true] at hv
          go_wp2_with fail
          go_ret
          exact ⟨ret_int hr.out.symm, hb1⟩
      · have hr := hide (Sx.at_no (o := o) (s := s) (n := (N : Int)) (by omega))
        go_enter Try.func21, Try.ntmps21
        go_wp2_with fail
        refine (impl_UnpackBits _ _ _ hm).mono ?_; rintro e w1 ⟨rfl, hb1⟩
        rw [h0, hu.out]
        have h3 : ¬ N < (str (Sx.unpackL (Sx.hiOf o) s.data.toList)).size := by rw [hz.out]; exact h2
        go_wp2_with fail
        go_ret
        exact ⟨ret_int hr.out.symm, hb1⟩
    · have hr := hide (Sx.at_no (o := o) (s := s) (n := n) (by omega))
      go_enter Try.func21, Try.ntmps21
      go_wp2_with fail
      refine (impl_UnpackBits _ _ _ hm).mono ?_; rintro e w1 ⟨rfl, hb1⟩
      rw [h0]
      go_wp2_with fail
      go_ret
      exact ⟨ret_int hr.out.symm, hb1⟩
  · have h0 : Sx.streamOK o s = false := by simpa using h0
    have hr := hide (Sx.at_stream (n := n) h0)
    go_enter Try.func21, Try.ntmps21
    go_wp2_with fail
    refine (impl_UnpackBits _ _ _ hm).mono ?_; rintro e w1 ⟨rfl, hb1⟩
    rw [h0]
    go_wp2_with fail
    go_ret
    exact ⟨ret_int hr.out.symm, hb1⟩

set_option maxHeartbeats 1000000 in
theorem spec_BitAt (o : Int) (s : ByteArray) (n : Int) (w : World) (hm : s.size ≤ 1048576) :
    Calls Try.prog 22 #[.int .i64 o, .string s, .int .i64 n] w fun e w' => e = .returned (.int .i64 (Sx.bitI o s n)) ∧ Below w.heap.size w w' := by
  by_cases h0 : Sx.streamOK o s = true
  · have hq := hide (Sx.stream_of h0)
    have hs := (Sx.stream_of h0).2
    by_cases h1 : 0 ≤ n
    · obtain ⟨N, rfl⟩ := Int.eq_ofNat_of_zero_le h1
      by_cases h2 : N < 8 * s.size
      · have h5 : N / 8 < s.size := by omega
        obtain ⟨b, hb⟩ : ∃ b, Sx.bitAt (Sx.hiOf o) 8 (s[N / 8]'(by omega)).toNat (N % 8) = Sx.dig b := ⟨_, rfl⟩
        have hr := hide (Sx.at_yes h0 h2 hb)
        have hg := hide ((Sx.cb_get (Sx.hiOf o) (s[N / 8]).toNat (N % 8) (Nat.mod_lt _ (by omega))).trans hb)
        have hbyte := (s[N / 8]).toNat_lt
        clear hb
        have C := fun wx => spec_l1Code o (s[N / 8]).toNat 8 wx (Sx.ord_of hq.out.1) (by omega) (by omega)
        rw [show ((8 : Nat) : Int) = 8 from rfl] at C
        have C := hide C
        go_enter Try.func22, Try.ntmps22
        go_wp2_with (first
          | (go_at_call 72; refine (spec_l1Stream _ _ _ (by omega)).mono ?_; rintro e w' ⟨rfl, rfl⟩; rw [h0]))
        refine (unhide C _).mono ?_; rintro e w1 ⟨rfl, hb1⟩
        clear C
        have h3 : N % 8 < (str (Sx.cbits (Sx.hiOf o) (s[N / 8]).toNat 8)).size := by rw [str_size, Sx.cbits_length]; omega
        have hv : ((str (Sx.cbits (Sx.hiOf o) (s[N / 8]).toNat 8))[N % 8].toNat : Int) = 48 + if b then 1 else 0 := by rw [hg.out]; exact Sx.dig_val b
        cases b
        · simp only [Bool.false_eq_true, if_false, Int.add_zero] at hv
          go_wp2_with fail
          go_ret
          exact ⟨ret_int hr.out.symm, hb1⟩
        · simp only [if_true] at hv
          go_wp2_with fail
          go_ret
          exact ⟨ret_int hr.out.symm, hb1⟩
      · have hr := hide (Sx.at_no (o := o) (s := s) (n := (N : Int)) (by omega))
        go_enter Try.func22, Try.ntmps22
        go_wp2_with (go_at_call 72; refine (spec_l1Stream _ _ _ (by omega)).mono ?_; rintro e w' ⟨rfl, rfl⟩; rw [h0])
        go_ret
        exact ⟨ret_int hr.out.symm, Below.refl _ _⟩
    · have hr := hide (Sx.at_no (o := o) (s := s) (n := n) (by omega))
      go_enter Try.func22, Try.ntmps22
      go_wp2_with (go_at_call 72; refine (spec_l1Stream _ _ _ (by omega)).mono ?_; rintro e w' ⟨rfl, rfl⟩; rw [h0])
      go_ret
      exact ⟨ret_int hr.out.symm, Below.refl _ _⟩
  · have h0 : Sx.streamOK o s = false := by simpa using h0
    have hr := hide (Sx.at_stream (n := n) h0)
    go_enter Try.func22, Try.ntmps22
    go_wp2_with (go_at_call 72; refine (spec_l1Stream _ _ _ (by omega)).mono ?_; rintro e w' ⟨rfl, rfl⟩; rw [h0])
    go_ret
    exact ⟨ret_int hr.out.symm, Below.refl _ _⟩

/-- SpanBits. -/
def Sx.spanOK (o : Int) (s : ByteArray) (a n : Int) : Bool := Sx.streamOK o s && decide (0 ≤ a ∧ 0 ≤ n ∧ a ≤ 8 * (s.size : Int) ∧ n ≤ 8 * (s.size : Int) - a)
def Sx.spanS (o : Int) (s : ByteArray) (a n : Int) : ByteArray := if Sx.spanOK o s a n = true then (str (Sx.unpackL (Sx.hiOf o) s.data.toList)).extract a.toNat (a.toNat + n.toNat) else str []
theorem Sx.span_yes {o : Int} {s : ByteArray} {a n : Int} (h : Sx.spanOK o s a n = true) : Sx.spanS o s a n = (str (Sx.unpackL (Sx.hiOf o) s.data.toList)).extract a.toNat (a.toNat + n.toNat) := if_pos h
theorem Sx.span_no {o : Int} {s : ByteArray} {a n : Int} (h : Sx.spanOK o s a n = false) : Sx.spanS o s a n = str [] := if_neg (by simp [h])
theorem Sx.span_stream {o : Int} {s : ByteArray} {a n : Int} (h : Sx.streamOK o s = false) : Sx.spanOK o s a n = false := by simp [Sx.spanOK, h]
theorem Sx.span_out {o : Int} {s : ByteArray} {a n : Int} (h : ¬ (0 ≤ a ∧ 0 ≤ n ∧ a ≤ 8 * (s.size : Int) ∧ n ≤ 8 * (s.size : Int) - a)) : Sx.spanOK o s a n = false := by
  simp only [Sx.spanOK, decide_eq_false h, Bool.and_false]
theorem Sx.span_mk {o : Int} {s : ByteArray} {a n : Int} (h0 : Sx.streamOK o s = true) (h : 0 ≤ a ∧ 0 ≤ n ∧ a ≤ 8 * (s.size : Int) ∧ n ≤ 8 * (s.size : Int) - a) : Sx.spanOK o s a n = true := by
  simp only [Sx.spanOK, h0, decide_eq_true h, Bool.and_true]

set_option maxHeartbeats 1000000 in
theorem impl_SpanBits (o : Int) (s : ByteArray) (a n : Int) (w : World) (hm : s.size ≤ 9223372036854775807) :
    Calls Try.prog 31 #[.int .i64 o, .string s, .int .i64 a, .int .i64 n] w fun e w' => e = .returned (.tuple #[.string (Sx.spanS o s a n), .bool (Sx.spanOK o s a n)]) ∧ Below w.heap.size w w' := by
  by_cases h0 : Sx.streamOK o s = true
  · have hu := hide (Sx.ub_yes h0)
    have hz := hide (Sx.un_size (Sx.hiOf o) s)
    have hs := (Sx.stream_of h0).2
    by_cases h1 : 0 ≤ a
    · by_cases h2 : 0 ≤ n
      · obtain ⟨A, rfl⟩ := Int.eq_ofNat_of_zero_le h1
        obtain ⟨N, rfl⟩ := Int.eq_ofNat_of_zero_le h2
        by_cases h3 : A ≤ 8 * s.size
        · by_cases h4 : N ≤ 8 * s.size - A
          · have HO := hide (Sx.span_mk (a := (A : Int)) (n := (N : Int)) h0 (by omega))
            have hr := hide (Sx.span_yes HO.out)
            go_enter Try.func31, Try.ntmps31
            go_wp2_with fail
            refine (impl_UnpackBits _ _ _ hm).mono ?_; rintro e w1 ⟨rfl, hb1⟩
            rw [h0, hu.out]
            have h5 : A ≤ (str (Sx.unpackL (Sx.hiOf o) s.data.toList)).size := by rw [hz.out]; exact h3
            have h6 : N ≤ (str (Sx.unpackL (Sx.hiOf o) s.data.toList)).size - A := by rw [hz.out]; exact h4
            have h7 : (str (Sx.unpackL (Sx.hiOf o) s.data.toList)).size ≤ 32000 := by rw [hz.out]; omega
            go_wp2_with fail
            go_ret2
            exact ⟨ret2 (vstr hr.out.symm) (vbool HO.out.symm), hb1⟩
          · have HO := hide (Sx.span_out (o := o) (s := s) (a := (A : Int)) (n := (N : Int)) (by omega))
            have hr := hide (Sx.span_no HO.out)
            go_enter Try.func31, Try.ntmps31
            go_wp2_with fail
            refine (impl_UnpackBits _ _ _ hm).mono ?_; rintro e w1 ⟨rfl, hb1⟩
            rw [h0, hu.out]
            have h5 : A ≤ (str (Sx.unpackL (Sx.hiOf o) s.data.toList)).size := by rw [hz.out]; exact h3
            have h6 : ¬ N ≤ (str (Sx.unpackL (Sx.hiOf o) s.data.toList)).size - A := by rw [hz.out]; exact h4
            have h7 : (str (Sx.unpackL (Sx.hiOf o) s.data.toList)).size ≤ 32000 := by rw [hz.out]; omega
            go_wp2_with fail
            go_ret2
            exact ⟨ret2 (vstr hr.out.symm) (vbool HO.out.symm), hb1⟩
        · have HO := hide (Sx.span_out (o := o) (s := s) (a := (A : Int)) (n := (N : Int)) (by omega))
          have hr := hide (Sx.span_no HO.out)
          go_enter Try.func31, Try.ntmps31
          go_wp2_with fail
          refine (impl_UnpackBits _ _ _ hm).mono ?_; rintro e w1 ⟨rfl, hb1⟩
          rw [h0, hu.out]
          have h5 : ¬ A ≤ (str (Sx.unpackL (Sx.hiOf o) s.data.toList)).size := by rw [hz.out]; exact h3
          go_wp2_with fail
          go_ret2
          exact ⟨ret2 (vstr hr.out.symm) (vbool HO.out.symm), hb1⟩
      · have HO := hide (Sx.span_out (o := o) (s := s) (a := a) (n := n) (by omega))
        have hr := hide (Sx.span_no HO.out)
        go_enter Try.func31, Try.ntmps31
        go_wp2_with fail
        refine (impl_UnpackBits _ _ _ hm).mono ?_; rintro e w1 ⟨rfl, hb1⟩
        rw [h0]
        go_wp2_with fail
        go_ret2
        exact ⟨ret2 (vstr hr.out.symm) (vbool HO.out.symm), hb1⟩
    · have HO := hide (Sx.span_out (o := o) (s := s) (a := a) (n := n) (by omega))
      have hr := hide (Sx.span_no HO.out)
      go_enter Try.func31, Try.ntmps31
      go_wp2_with fail
      refine (impl_UnpackBits _ _ _ hm).mono ?_; rintro e w1 ⟨rfl, hb1⟩
      rw [h0]
      go_wp2_with fail
      go_ret2
      exact ⟨ret2 (vstr hr.out.symm) (vbool HO.out.symm), hb1⟩
  · have h0 : Sx.streamOK o s = false := by simpa using h0
    have HO := hide (Sx.span_stream (a := a) (n := n) h0)
    have hr := hide (Sx.span_no HO.out)
    go_enter Try.func31, Try.ntmps31
    go_wp2_with fail
    refine (impl_UnpackBits _ _ _ hm).mono ?_; rintro e w1 ⟨rfl, hb1⟩
    rw [h0]
    go_wp2_with fail
    go_ret2
    exact ⟨ret2 (vstr hr.out.symm) (vbool HO.out.symm), hb1⟩

set_option maxHeartbeats 1000000 in
theorem spec_SpanBits (o : Int) (s : ByteArray) (a n : Int) (w : World) (hm : s.size ≤ 1048576) :
    Calls Try.prog 32 #[.int .i64 o, .string s, .int .i64 a, .int .i64 n] w fun e w' => e = .returned (.tuple #[.string (Sx.spanS o s a n), .bool (Sx.spanOK o s a n)]) ∧ Below w.heap.size w w' := by
  by_cases h0 : Sx.streamOK o s = true
  · have hq := hide (Sx.stream_of h0)
    have hz := hide (Sx.un_size (Sx.hiOf o) s)
    have hs := (Sx.stream_of h0).2
    by_cases h1 : 0 ≤ a ∧ a ≤ 8 * (s.size : Int)
    · have q1 : (decide (0 ≤ a) && decide (a ≤ 8 * (s.size : Int))) = true := by simp [h1]
      obtain ⟨c1, c2⟩ := h1
      obtain ⟨A, rfl⟩ := Int.eq_ofNat_of_zero_le c1
      by_cases h2 : 0 ≤ n ∧ n ≤ 8 * (s.size : Int) - A
      · have q2 : (decide (0 ≤ n) && decide (n ≤ 8 * (s.size : Int) - A)) = true := by simp [h2]
        obtain ⟨c3, c4⟩ := h2
        obtain ⟨N, rfl⟩ := Int.eq_ofNat_of_zero_le c3
        have HO := hide (Sx.span_mk (a := (A : Int)) (n := (N : Int)) h0 (by omega))
        have hr := hide (Sx.span_yes HO.out)
        go_enter Try.func32, Try.ntmps32
        go_wp2_with (first
          | (go_at_call 72; refine (spec_l1Stream _ _ _ (by omega)).mono ?_; rintro e w' ⟨rfl, rfl⟩; rw [h0])
          | (go_at_call 79; refine (spec_l1In _ _ _ _).mono ?_; rintro e w' ⟨rfl, rfl⟩))
        refine (spec_l1Unpack _ _ _ (Sx.ord_of hq.out.1) hq.out.2).mono ?_; rintro e w1 ⟨rfl, hb1⟩
        have h5 : A ≤ (str (Sx.unpackL (Sx.hiOf o) s.data.toList)).size := by rw [hz.out]; omega
        have h6 : A + N ≤ (str (Sx.unpackL (Sx.hiOf o) s.data.toList)).size := by rw [hz.out]; omega
        have h7 : (str (Sx.unpackL (Sx.hiOf o) s.data.toList)).size ≤ 32000 := by rw [hz.out]; omega
        go_wp2_with fail
        go_ret2
        exact ⟨ret2 (vstr hr.out.symm) (vbool HO.out.symm), hb1⟩
      · have q2 : (decide (0 ≤ n) && decide (n ≤ 8 * (s.size : Int) - A)) = false := by simp; omega
        have HO := hide (Sx.span_out (o := o) (s := s) (a := (A : Int)) (n := n) (by omega))
        have hr := hide (Sx.span_no HO.out)
        clear h2
        go_enter Try.func32, Try.ntmps32
        go_wp2_with (first
          | (go_at_call 72; refine (spec_l1Stream _ _ _ (by omega)).mono ?_; rintro e w' ⟨rfl, rfl⟩; rw [h0])
          | (go_at_call 79; refine (spec_l1In _ _ _ _).mono ?_; rintro e w' ⟨rfl, rfl⟩))
        go_ret2
        exact ⟨ret2 (vstr hr.out.symm) (vbool HO.out.symm), Below.refl _ _⟩
    · have q1 : (decide (0 ≤ a) && decide (a ≤ 8 * (s.size : Int))) = false := by simp; omega
      have HO := hide (Sx.span_out (o := o) (s := s) (a := a) (n := n) (by omega))
      have hr := hide (Sx.span_no HO.out)
      clear h1
      go_enter Try.func32, Try.ntmps32
      go_wp2_with (first
        | (go_at_call 72; refine (spec_l1Stream _ _ _ (by omega)).mono ?_; rintro e w' ⟨rfl, rfl⟩; rw [h0])
        | (go_at_call 79; refine (spec_l1In _ _ _ _).mono ?_; rintro e w' ⟨rfl, rfl⟩))
      go_ret2
      exact ⟨ret2 (vstr hr.out.symm) (vbool HO.out.symm), Below.refl _ _⟩
  · have h0 : Sx.streamOK o s = false := by simpa using h0
    have HO := hide (Sx.span_stream (a := a) (n := n) h0)
    have hr := hide (Sx.span_no HO.out)
    go_enter Try.func32, Try.ntmps32
    go_wp2_with (go_at_call 72; refine (spec_l1Stream _ _ _ (by omega)).mono ?_; rintro e w' ⟨rfl, rfl⟩; rw [h0])
    go_ret2
    exact ⟨ret2 (vstr hr.out.symm) (vbool HO.out.symm), Below.refl _ _⟩
end Go.Proofs.Ytkecappciglonaa

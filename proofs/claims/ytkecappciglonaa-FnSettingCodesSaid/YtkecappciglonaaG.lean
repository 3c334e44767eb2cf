/- The walks of bitsNumber, l1Number, BitsCode, ReverseBits. Conditions: each argument is a value of its type; l1Number reads bits alone. -/
import Derived.Test.YtkecappciglonaaF
namespace Go.Proofs.Ytkecappciglonaa
open Go.RowKit

theorem Sx.get_list (s : ByteArray) (k : Nat) (h : k < s.size) : s.data.toList[k]'(by rw [Sx.len_bytes]; exact h) = s[k] := rfl
theorem Sx.is49 {b : UInt8} (h : (b.toNat : Int) = 49) : b = 49 := by
  have e : b.toNat = (49 : UInt8).toNat := by show b.toNat = 49; omega
  exact UInt8.toNat_inj.1 e
theorem Sx.not49 {b : UInt8} (h : (b.toNat : Int) ≠ 49) : b ≠ 49 := fun e => h (by rw [e]; rfl)
theorem beq_true {a b : Int} (h : a = b) : (a == b) = true := by simpa using h
theorem beq_false {a b : Int} (h : a ≠ b) : (a == b) = false := by simpa using h

set_option maxHeartbeats 1000000 in
theorem impl_bitsNumber (o : Int) (s : ByteArray) (w : World) (ho : o = 0 ∨ o = 1) (hs : s.size ≤ 10) :
    Calls Try.prog 80 #[.int .i64 o, .string s] w fun e w' => e = .returned (.int .i64 (Sx.numOf (Sx.hiOf o) s.data.toList)) ∧ w = w' := by
  have hl := hide (Sx.len_bytes s)
  go_enter Try.func80, Try.ntmps80
  go_wp2_with fail
  go_loop [5, 6, 9] (fun n _ i => ∃ k : Nat, k ≤ s.size ∧ i = .int .i64 k ∧ n = .int .i64 (Sx.psum (Sx.hiOf o) s.data.toList k)) (fun _ _ i => s.size - (intOf i).toNat)
  case atStart => exact ⟨0, Nat.zero_le _, rfl, by rw [Sx.psum_zero]; rfl⟩
  case round =>
    obtain ⟨k, hk, rfl, rfl⟩ := hrel
    have hb1 : Sx.psum (Sx.hiOf o) s.data.toList k < 1024 := Nat.lt_of_lt_of_le (Sx.psum_lt _ _ _ (by rw [hl.out]; exact hk)) (Sx.pow_le_1024 (by rw [hl.out]; exact hs))
    by_cases hlt : k < s.size
    · have hll : k < s.data.toList.length := by rw [hl.out]; exact hlt
      by_cases h49 : (s[k].toNat : Int) = 49
      · have HS := hide (Sx.psum_one (hi := Sx.hiOf o) hll (Sx.is49 h49))
        have HP := hide (Sx.plc_nat (o := o) ho hlt)
        have ht := beq_true h49
        have htl := Sx.two_lit (l := Sx.plc o k s.size) (by rw [HP.out]; split <;> omega)
        have htp := Sx.two_pos (Sx.plc o k s.size)
        clear h49
        go_wp2_with (go_at_call 106; refine (impl_place _ _ _ _ ho (by omega) (by omega) (by omega)).mono ?_; rintro e w' ⟨rfl, rfl⟩)
        go_round
        case rel =>
          refine ⟨k + 1, by omega, by go_num, vint ?_⟩
          rw [HS.out, HP.out, hl.out]
          unfold Sx.two
          rw [Int.toNat_natCast, Int.natCast_add]
        case measure => simp [intOf]; omega
      · have HS := hide (Sx.psum_other (hi := Sx.hiOf o) hll (Sx.not49 h49))
        have ht := beq_false h49
        clear h49
        go_wp2_with fail
        go_round
        case rel => exact ⟨k + 1, by omega, by go_num, vint (by rw [HS.out])⟩
        case measure => simp [intOf]; omega
    · have hk' : k = s.size := by omega
      have HE := hide (Sx.psum_end (Sx.hiOf o) s.data.toList)
      go_wp2_with fail
      go_ret
      exact ⟨ret_int (by rw [← HE.out, hl.out]), rfl⟩

/-- The list in the order in which spec.l1Number reads it. -/
def Sx.road (o : Int) (l : List UInt8) : List UInt8 := if o = 0 then l.reverse else l
theorem Sx.bit_cases {b : UInt8} (h : Sx.isBit b = true) : (b.toNat : Int) = 48 ∧ (b == 49) = false ∨ (b.toNat : Int) = 49 ∧ (b == 49) = true := by
  simp only [Sx.isBit, Bool.or_eq_true, beq_iff_eq] at h
  rcases h with rfl | rfl
  · exact .inl ⟨rfl, rfl⟩
  · exact .inr ⟨rfl, rfl⟩
theorem Sx.all_at {s : ByteArray} (h : s.data.toList.all Sx.isBit = true) {k : Nat} (hk : k < s.size) : Sx.isBit s[k] = true :=
  (List.all_eq_true.1 h) _ (by rw [← Sx.get_list s k hk]; exact List.getElem_mem _)

set_option maxHeartbeats 1000000 in
theorem spec_l1Number_high (s : ByteArray) (w : World) (hs : s.size ≤ 10) (ha : Hid (s.data.toList.all Sx.isBit = true)) :
    Calls Try.prog 94 #[.int .i64 1, .string s] w fun e w' => e = .returned (.int .i64 (Sx.numOf true s.data.toList)) ∧ w = w' := by
  have hl := hide (Sx.len_bytes s)
  go_enter Try.func94, Try.ntmps94
  go_wp2_with fail
  go_loop [5, 6, 7] (fun n i _ => ∃ k : Nat, k ≤ s.size ∧ i = .int .i64 k ∧ n = .int .i64 (Sx.hsum s.data.toList k)) (fun _ i _ => s.size - (intOf i).toNat)
  case atStart => exact ⟨0, Nat.zero_le _, rfl, by rw [Sx.hsum_zero]; rfl⟩
  case round =>
    obtain ⟨k, hk, rfl, rfl⟩ := hrel
    have hb1 : Sx.hsum s.data.toList k < 1024 := Nat.lt_of_lt_of_le (Sx.hsum_lt (by rw [hl.out]; exact hk)) (Sx.pow_le_1024 (by rw [hl.out]; exact hs))
    by_cases hlt : k < s.size
    · have hll : k < s.data.toList.length := by rw [hl.out]; exact hlt
      have HS := hide (Sx.hsum_succ (l := s.data.toList) hll)
      rcases Sx.bit_cases (Sx.all_at ha.out hlt) with ⟨hv, he⟩ | ⟨hv, he⟩
      all_goals
        have HE := hide he
        clear he
        go_wp2_with fail
        go_round
        case rel =>
          refine ⟨k + 1, by omega, by go_num, vint ?_⟩
          rw [HS.out, Sx.get_list s k hlt, HE.out]
          simp <;> omega
        case measure => simp [intOf]; omega
    · have hk' : k = s.size := by omega
      have HE := hide (Sx.hsum_high s.data.toList)
      go_wp2_with fail
      go_ret
      exact ⟨ret_int (by rw [← HE.out, hl.out]), rfl⟩

theorem Sx.rev_get (s : ByteArray) (k : Nat) (h : k < s.size) : s.data.toList.reverse[k]'(by rw [List.length_reverse, Sx.len_bytes]; exact h) = s[s.size - 1 - k]'(by omega) := by
  rw [List.getElem_reverse]
  simp only [Sx.len_bytes]
  rfl

set_option maxHeartbeats 1000000 in
theorem spec_l1Number_low (s : ByteArray) (w : World) (hs : s.size ≤ 10) (ha : Hid (s.data.toList.all Sx.isBit = true)) :
    Calls Try.prog 94 #[.int .i64 0, .string s] w fun e w' => e = .returned (.int .i64 (Sx.numOf false s.data.toList)) ∧ w = w' := by
  have hl := hide (Sx.len_bytes s)
  go_enter Try.func94, Try.ntmps94
  go_wp2_with fail
  go_loop [5, 6, 7] (fun n i _ => ∃ k : Nat, k ≤ s.size ∧ i = .int .i64 k ∧ n = .int .i64 (Sx.hsum s.data.toList.reverse k)) (fun _ i _ => s.size - (intOf i).toNat)
  case atStart => exact ⟨0, Nat.zero_le _, rfl, by rw [Sx.hsum_zero]; rfl⟩
  case round =>
    obtain ⟨k, hk, rfl, rfl⟩ := hrel
    have hb1 : Sx.hsum s.data.toList.reverse k < 1024 := Nat.lt_of_lt_of_le (Sx.hsum_lt (by rw [List.length_reverse, hl.out]; exact hk)) (Sx.pow_le_1024 (by rw [List.length_reverse, hl.out]; exact hs))
    by_cases hlt : k < s.size
    · have hll : k < s.data.toList.reverse.length := by rw [List.length_reverse, hl.out]; exact hlt
      have HS := hide (Sx.hsum_succ (l := s.data.toList.reverse) hll)
      have hlt2 : s.size - 1 - k < s.size := by omega
      rcases Sx.bit_cases (Sx.all_at ha.out hlt2) with ⟨hv, he⟩ | ⟨hv, he⟩
      all_goals
        have HE := hide he
        clear he
        go_wp2_with fail
        go_round
        case rel =>
          refine ⟨k + 1, by omega, by go_num, vint ?_⟩
          rw [HS.out, Sx.rev_get s k hlt, HE.out]
          simp <;> omega
        case measure => simp [intOf]; omega
    · have hk' : k = s.size := by omega
      have HE := hide (Sx.hsum_low s.data.toList)
      go_wp2_with fail
      go_ret
      exact ⟨ret_int (by rw [← HE.out, hl.out]), rfl⟩

theorem spec_l1Number (o : Int) (s : ByteArray) (w : World) (ho : o = 0 ∨ o = 1) (hs : s.size ≤ 10) (ha : s.data.toList.all Sx.isBit = true) :
    Calls Try.prog 94 #[.int .i64 o, .string s] w fun e w' => e = .returned (.int .i64 (Sx.numOf (Sx.hiOf o) s.data.toList)) ∧ w = w' := by
  rcases ho with rfl | rfl
  · exact spec_l1Number_low s w hs ha
  · exact spec_l1Number_high s w hs ha

/-- BitsCode. -/
def Sx.bcOK (o : Int) (s : ByteArray) : Bool := Sx.ordOK o && (Sx.bitsValid s && (decide (1 ≤ s.size) && decide (s.size ≤ 10)))
def Sx.bcN (o : Int) (s : ByteArray) : Int := if Sx.bcOK o s = true then (Sx.numOf (Sx.hiOf o) s.data.toList : Int) else 0
theorem Sx.bc_yes {o : Int} {s : ByteArray} (h : Sx.bcOK o s = true) : Sx.bcN o s = (Sx.numOf (Sx.hiOf o) s.data.toList : Int) := if_pos h
theorem Sx.bc_no {o : Int} {s : ByteArray} (h : Sx.bcOK o s = false) : Sx.bcN o s = 0 := if_neg (by simp [h])
theorem Sx.bc_mk {o : Int} {s : ByteArray} (h0 : Sx.ordOK o = true) (h1 : Sx.bitsValid s = true) (h2 : 1 ≤ s.size) (h3 : s.size ≤ 10) : Sx.bcOK o s = true := by simp [Sx.bcOK, h0, h1, h2, h3]
theorem Sx.bc_ord {o : Int} {s : ByteArray} (h0 : Sx.ordOK o = false) : Sx.bcOK o s = false := by simp [Sx.bcOK, h0]
theorem Sx.bc_val {o : Int} {s : ByteArray} (h1 : Sx.bitsValid s = false) : Sx.bcOK o s = false := by simp [Sx.bcOK, h1]
theorem Sx.bc_len {o : Int} {s : ByteArray} (h : ¬ (1 ≤ s.size ∧ s.size ≤ 10)) : Sx.bcOK o s = false := by
  have : (decide (1 ≤ s.size) && decide (s.size ≤ 10)) = false := by simp; omega
  simp only [Sx.bcOK, this, Bool.and_false]
theorem Sx.valid_all {s : ByteArray} (h : Sx.bitsValid s = true) : s.data.toList.all Sx.isBit = true := by
  simp only [Sx.bitsValid, Bool.and_eq_true] at h; exact h.2
theorem Sx.valid_len {s : ByteArray} (h : Sx.bitsValid s = true) : s.size ≤ 32000 := by
  simp only [Sx.bitsValid, Bool.and_eq_true, decide_eq_true_iff] at h; exact h.1

set_option maxHeartbeats 1000000 in
theorem spec_BitsCode (o : Int) (s : ByteArray) (w : World) (hm : s.size ≤ 9223372036854775807) :
    Calls Try.prog 58 #[.int .i64 o, .string s] w fun e w' => e = .returned (.tuple #[.int .i64 (Sx.bcN o s), .bool (Sx.bcOK o s)]) ∧ w = w' := by
  by_cases h0 : Sx.ordOK o = true
  · by_cases h1 : Sx.bitsValid s = true
    · by_cases h2 : 1 ≤ s.size ∧ s.size ≤ 10
      · have hq : (decide (1 ≤ (s.size : Int)) && decide ((s.size : Int) ≤ 10)) = true := by simp; omega
        have HO := hide (Sx.bc_mk h0 h1 h2.1 h2.2)
        have hy := hide (Sx.bc_yes HO.out)
        have ho := hide (Sx.ord_of h0)
        have ha := hide (Sx.valid_all h1)
        have h3 := h2.2
        clear h2
        go_enter Try.func58, Try.ntmps58
        go_wp2_with (first
          | (go_at_call 78; refine (spec_l1Order _ _).mono ?_; rintro e w' ⟨rfl, rfl⟩)
          | (go_at_call 100; refine (spec_BitsValid _ _ hm).mono ?_; rintro e w' ⟨rfl, rfl⟩)
          | (go_at_call 79; refine (spec_l1In _ _ _ _).mono ?_; rintro e w' ⟨rfl, rfl⟩)
          | (go_at_call 94; refine (spec_l1Number _ _ _ ho.out h3 ha.out).mono ?_; rintro e w' ⟨rfl, rfl⟩))
        go_ret2
        exact ⟨ret2 (vint hy.out.symm) (vbool HO.out.symm), rfl⟩
      · have hq : (decide (1 ≤ (s.size : Int)) && decide ((s.size : Int) ≤ 10)) = false := by simp; omega
        have HO := hide (Sx.bc_len (o := o) h2)
        have hy := hide (Sx.bc_no HO.out)
        clear h2
        go_enter Try.func58, Try.ntmps58
        go_wp2_with (first
          | (go_at_call 78; refine (spec_l1Order _ _).mono ?_; rintro e w' ⟨rfl, rfl⟩)
          | (go_at_call 100; refine (spec_BitsValid _ _ hm).mono ?_; rintro e w' ⟨rfl, rfl⟩)
          | (go_at_call 79; refine (spec_l1In _ _ _ _).mono ?_; rintro e w' ⟨rfl, rfl⟩))
        go_ret2
        exact ⟨ret2 (vint hy.out.symm) (vbool HO.out.symm), rfl⟩
    · have h1 : Sx.bitsValid s = false := by simpa using h1
      have HO := hide (Sx.bc_val (o := o) h1)
      have hy := hide (Sx.bc_no HO.out)
      go_enter Try.func58, Try.ntmps58
      go_wp2_with (first
        | (go_at_call 78; refine (spec_l1Order _ _).mono ?_; rintro e w' ⟨rfl, rfl⟩)
        | (go_at_call 100; refine (spec_BitsValid _ _ hm).mono ?_; rintro e w' ⟨rfl, rfl⟩))
      go_ret2
      exact ⟨ret2 (vint hy.out.symm) (vbool HO.out.symm), rfl⟩
  · have h0 : Sx.ordOK o = false := by simpa using h0
    have HO := hide (Sx.bc_ord (s := s) h0)
    have hy := hide (Sx.bc_no HO.out)
    go_enter Try.func58, Try.ntmps58
    go_wp2_with (first
      | (go_at_call 78; refine (spec_l1Order _ _).mono ?_; rintro e w' ⟨rfl, rfl⟩))
    go_ret2
    exact ⟨ret2 (vint hy.out.symm) (vbool HO.out.symm), rfl⟩

set_option maxHeartbeats 1000000 in
theorem impl_BitsCode (o : Int) (s : ByteArray) (w : World) (hm : s.size ≤ 9223372036854775807) :
    Calls Try.prog 27 #[.int .i64 o, .string s] w fun e w' => e = .returned (.tuple #[.int .i64 (Sx.bcN o s), .bool (Sx.bcOK o s)]) ∧ w = w' := by
  by_cases h0 : Sx.ordOK o = true
  · by_cases h2 : 1 ≤ s.size
    · by_cases h3 : s.size ≤ 10
      · by_cases h1 : Sx.bitsValid s = true
        · have HO := hide (Sx.bc_mk h0 h1 h2 h3)
          have hy := hide (Sx.bc_yes HO.out)
          have ho := hide (Sx.ord_of h0)
          go_enter Try.func27, Try.ntmps27
          go_wp2_with (first
            | (go_at_call 74; refine (impl_orderValid _ _).mono ?_; rintro e w' ⟨rfl, rfl⟩)
            | (go_at_call 28; refine (impl_BitsValid _ _ hm).mono ?_; rintro e w' ⟨rfl, rfl⟩)
            | (go_at_call 80; refine (impl_bitsNumber _ _ _ ho.out h3).mono ?_; rintro e w' ⟨rfl, rfl⟩))
          go_ret2
          exact ⟨ret2 (vint hy.out.symm) (vbool HO.out.symm), rfl⟩
        · have h1 : Sx.bitsValid s = false := by simpa using h1
          have HO := hide (Sx.bc_val (o := o) h1)
          have hy := hide (Sx.bc_no HO.out)
          go_enter Try.func27, Try.ntmps27
          go_wp2_with (first
            | (go_at_call 74; refine (impl_orderValid _ _).mono ?_; rintro e w' ⟨rfl, rfl⟩)
            | (go_at_call 28; refine (impl_BitsValid _ _ hm).mono ?_; rintro e w' ⟨rfl, rfl⟩))
          go_ret2
          exact ⟨ret2 (vint hy.out.symm) (vbool HO.out.symm), rfl⟩
      · have HO := hide (Sx.bc_len (o := o) (s := s) (by omega))
        have hy := hide (Sx.bc_no HO.out)
        go_enter Try.func27, Try.ntmps27
        go_wp2_with (first
          | (go_at_call 74; refine (impl_orderValid _ _).mono ?_; rintro e w' ⟨rfl, rfl⟩))
        go_ret2
        exact ⟨ret2 (vint hy.out.symm) (vbool HO.out.symm), rfl⟩
    · have HO := hide (Sx.bc_len (o := o) (s := s) (by omega))
      have hy := hide (Sx.bc_no HO.out)
      go_enter Try.func27, Try.ntmps27
      go_wp2_with (first
        | (go_at_call 74; refine (impl_orderValid _ _).mono ?_; rintro e w' ⟨rfl, rfl⟩))
      go_ret2
      exact ⟨ret2 (vint hy.out.symm) (vbool HO.out.symm), rfl⟩
  · have h0 : Sx.ordOK o = false := by simpa using h0
    have HO := hide (Sx.bc_ord (s := s) h0)
    have hy := hide (Sx.bc_no HO.out)
    go_enter Try.func27, Try.ntmps27
    go_wp2_with (first
      | (go_at_call 74; refine (impl_orderValid _ _).mono ?_; rintro e w' ⟨rfl, rfl⟩))
    go_ret2
    exact ⟨ret2 (vint hy.out.symm) (vbool HO.out.symm), rfl⟩

/-- ReverseBits. -/
def Sx.revN (n wd : Int) : Int := if Sx.codeOK 0 n wd = true then (Sx.numOf true (Sx.cbits false n.toNat wd.toNat) : Int) else 0
theorem Sx.rev_yes {n wd : Int} (h : Sx.codeOK 0 n wd = true) : Sx.revN n wd = (Sx.numOf true (Sx.cbits false n.toNat wd.toNat) : Int) := if_pos h
theorem Sx.rev_no {n wd : Int} (h : Sx.codeOK 0 n wd = false) : Sx.revN n wd = 0 := if_neg (by simp [h])
theorem Sx.cb_size {n wd : Int} (h : Sx.codeOK 0 n wd = true) : (str (Sx.cbits false n.toNat wd.toNat)).size ≤ 10 ∧ 1 ≤ (str (Sx.cbits false n.toNat wd.toNat)).size := by
  have := Sx.code_bd h
  rw [str_size, Sx.cbits_length]; omega
theorem Sx.cb_valid {n wd : Int} (h : Sx.codeOK 0 n wd = true) : Sx.bitsValid (str (Sx.cbits false n.toNat wd.toNat)) = true := by
  have := (Sx.cb_size h).1
  simp only [Sx.bitsValid, Bool.and_eq_true, decide_eq_true_iff]
  exact ⟨by omega, Sx.cbits_all _ _ _⟩

set_option maxHeartbeats 1000000 in
theorem spec_ReverseBits (n wd : Int) (w : World) :
    Calls Try.prog 50 #[.int .i64 n, .int .i64 wd] w fun e w' => e = .returned (.tuple #[.int .i64 (Sx.revN n wd), .bool (Sx.codeOK 0 n wd)]) ∧ Below w.heap.size w w' := by
  by_cases h : Sx.codeOK 0 n wd = true
  · have hy := hide (Sx.rev_yes h)
    have hc := hide (show Sx.cbS 0 n wd = str (Sx.cbits false n.toNat wd.toNat) from Sx.code_yes h)
    have hz := Sx.cb_size h
    go_enter Try.func50, Try.ntmps50
    go_wp2_with fail
    refine (spec_CodeBits _ _ _ _).mono ?_; rintro e w1 ⟨rfl, hb1⟩
    rw [hc.out]
    go_wp2_with fail
    refine (spec_l1Number 1 _ _ (.inr rfl) hz.1 (Sx.cbits_all _ _ _)).mono ?_; rintro e w2 ⟨rfl, rfl⟩
    go_wp2_with fail
    go_ret2
    exact ⟨ret2 (vint hy.out.symm) (vbool h.symm), hb1⟩
  · have h : Sx.codeOK 0 n wd = false := by simpa using h
    have hy := hide (Sx.rev_no h)
    go_enter Try.func50, Try.ntmps50
    go_wp2_with fail
    refine (spec_CodeBits _ _ _ _).mono ?_; rintro e w1 ⟨rfl, hb1⟩
    go_wp2_with fail
    go_ret2
    exact ⟨ret2 (vint hy.out.symm) (vbool h.symm), hb1⟩

set_option maxHeartbeats 1000000 in
theorem impl_ReverseBits (n wd : Int) (w : World) :
    Calls Try.prog 49 #[.int .i64 n, .int .i64 wd] w fun e w' => e = .returned (.tuple #[.int .i64 (Sx.revN n wd), .bool (Sx.codeOK 0 n wd)]) ∧ Below w.heap.size w w' := by
  by_cases h : Sx.codeOK 0 n wd = true
  · have hy := hide (Sx.rev_yes h)
    have hc := hide (show Sx.cbS 0 n wd = str (Sx.cbits false n.toNat wd.toNat) from Sx.code_yes h)
    have hz := Sx.cb_size h
    have HB := hide (Sx.bc_mk (o := 1) (by decide) (Sx.cb_valid h) hz.2 hz.1)
    have HN := hide (Sx.bc_yes HB.out)
    go_enter Try.func49, Try.ntmps49
    go_wp2_with fail
    refine (impl_CodeBits _ _ _ _).mono ?_; rintro e w1 ⟨rfl, hb1⟩
    rw [hc.out]
    go_wp2_with fail
    refine (impl_BitsCode 1 (str (Sx.cbits false n.toNat wd.toNat)) _ (by have := hz.1; omega)).mono ?_; rintro e w2 ⟨rfl, rfl⟩
    rw [HB.out, HN.out]
    go_wp2_with fail
    go_ret2
    exact ⟨ret2 (vint hy.out.symm) (vbool h.symm), hb1⟩
  · have h : Sx.codeOK 0 n wd = false := by simpa using h
    have hy := hide (Sx.rev_no h)
    go_enter Try.func49, Try.ntmps49
    go_wp2_with fail
    refine (impl_CodeBits _ _ _ _).mono ?_; rintro e w1 ⟨rfl, hb1⟩
    go_wp2_with fail
    go_ret2
    exact ⟨ret2 (vint hy.out.symm) (vbool h.symm), hb1⟩
end Go.Proofs.Ytkecappciglonaa

/- The walks of place, appendBits, l1Code, CodeBits. Conditions: those of their callers: an order, a number within its width. -/
import Derived.Test.YtkecappciglonaaBytes
import Derived.Test.YtkecappciglonaaPbits
import Derived.Test.YtkecappciglonaaCd
namespace Go.Proofs.Ytkecappciglonaa
open Go.RowKit

/-- The exponent of a digit's value. -/
def Sx.plc (o i w : Int) : Int := if o = 1 then w - 1 - i else i

set_option maxHeartbeats 400000 in
theorem impl_place (o i wd : Int) (w : World) (ho : o = 0 ∨ o = 1) (h0 : 0 ≤ i) (h1 : i < wd) (h2 : wd ≤ 10) :
    Calls Try.prog 106 #[.int .i64 o, .int .i64 i, .int .i64 wd] w fun e w' => e = .returned (.int .i64 (Sx.two (Sx.plc o i wd))) ∧ w = w' := by
  rcases ho with rfl | rfl
  · have hp := hide (show Sx.two (Sx.plc 0 i wd) = Sx.two i by simp [Sx.plc])
    go_enter Try.func106, Try.ntmps106
    go_wp2
    go_ret
    exact ⟨ret_int ((wrap_two (by omega)).trans hp.out.symm), rfl⟩
  · have hp := hide (show Sx.two (Sx.plc 1 i wd) = Sx.two (wd - 1 - i) by simp [Sx.plc])
    go_enter Try.func106, Try.ntmps106
    go_wp2
    go_ret
    exact ⟨ret_int ((wrap_two (by omega)).trans hp.out.symm), rfl⟩

theorem try_info8 : (Try.prog.info? 5).map (fun i => (i.zero, i.size, i.bytes)) = some (some (.int .u8 0), 1, 1) := by kernel_rfl

theorem Sx.and_bit {n j : Nat} (hn : n < 9223372036854775808) (hj : j ≤ 10) : (bits .and .i64 (n : Int) (Sx.two j) != 0) = n.testBit j := by
  have hp : (2 : Nat) ^ j ≤ 2 ^ 10 := Nat.pow_le_pow_right (by omega) hj
  have e : Sx.two j = ((2 ^ j : Nat) : Int) := by unfold Sx.two; rw [Int.toNat_natCast]
  rw [e, i64_and_nat n (2 ^ j) hn (by omega), Sx.and_pow]
  have := Nat.pow_pos (n := j) (show 0 < 2 by omega)
  cases h : n.testBit j
  · simp
  · rw [if_pos rfl, bne_iff_ne]; exact Int.natCast_ne_zero.2 (by omega)
theorem Sx.plc_nat {o : Int} (ho : o = 0 ∨ o = 1) {k wd : Nat} (h : k < wd) : Sx.plc o k wd = ((if Sx.hiOf o then wd - 1 - k else k : Nat) : Int) := by
  rcases ho with rfl | rfl <;> simp [Sx.plc, Sx.hiOf]; omega
theorem Sx.and_plc {o : Int} (ho : o = 0 ∨ o = 1) {n k wd : Nat} (hn : n < 9223372036854775808) (h : k < wd) (hw : wd ≤ 10) {b : Bool} (hb : n.testBit (if Sx.hiOf o then wd - 1 - k else k) = b) :
    (bits .and .i64 (n : Int) (Sx.two (Sx.plc o k wd)) != 0) = b := by
  rw [Sx.plc_nat ho h, Sx.and_bit hn (by split <;> omega), hb]
/-- The first k bits. -/
def Sx.pre (hi : Bool) (n wd k : Nat) : List UInt8 := (List.range k).map (Sx.bitAt hi wd n)
theorem Sx.pre_succ {o : Int} {n wd k : Nat} {b : Bool} (hb : n.testBit (if Sx.hiOf o then wd - 1 - k else k) = b) : Sx.pre (Sx.hiOf o) n wd (k + 1) = Sx.pre (Sx.hiOf o) n wd k ++ [Sx.dig b] := by
  unfold Sx.pre; rw [Sx.range_snoc_map, Sx.bitAt, hb]
theorem Sx.pre_length (hi : Bool) (n wd k : Nat) : (Sx.pre hi n wd k).length = k := by simp [Sx.pre]

set_option maxHeartbeats 1000000 in
theorem impl_appendBits (o : Int) (n wd : Nat) (v : Value) (base : Nat) (xs : List UInt8) (w : World) (ho : o = 0 ∨ o = 1) (hn : n < 9223372036854775808) (hw : wd ≤ 10) (hx : xs.length ≤ 1000000)
    (hown : w.ownsRow base 5 1 v xs.length (bvals xs)) (hbase : base ≤ w.heap.size) :
    Calls Try.prog 77 #[v, .int .i64 o, .int .i64 n, .int .i64 wd] w (OwnsPost base 5 (xs ++ Sx.cbits (Sx.hiOf o) n wd) w) := by
  obtain ⟨i0, hi0, hz0, hz1, hz2⟩ := info_parts try_info8
  go_enter Try.func77, Try.ntmps77
  go_wp2_with fail
  go_loopw [0, 9, 10, 12] (fun u _ _ i wr => ∃ k : Nat, k ≤ wd ∧ i = .int .i64 k ∧ wr.ownsRow base 5 1 u (xs ++ Sx.pre (Sx.hiOf o) n wd k).length (bvals (xs ++ Sx.pre (Sx.hiOf o) n wd k)) ∧ Below base w wr) (fun _ _ _ i _ => wd - (intOf i).toNat)
  case atStart => exact ⟨0, Nat.zero_le _, rfl, by simpa [Sx.pre] using hown, Below.refl _ _⟩
  case round =>
    obtain ⟨k, hk, rfl, hrow, hbw⟩ := hrel
    have hlen : (xs ++ Sx.pre (Sx.hiOf o) n wd k).length = xs.length + k := by rw [List.length_append, Sx.pre_length]
    have HL := hide hlen
    clear hlen
    have hbz : base ≤ wr.heap.size := Nat.le_trans hbase hbw.size
    by_cases hlt : k < wd
    · cases hb : n.testBit (if Sx.hiOf o then wd - 1 - k else k)
      · have ht := Sx.and_plc ho hn hlt hw hb
        have HP := hide (Sx.pre_succ hb)
        clear hb
        go_wp2_with (first
          | (go_at_call 106; refine (impl_place _ _ _ _ ho (by omega) (by omega) (by omega)).mono ?_; rintro e w' ⟨rfl, rfl⟩)
          | (at_builtin; refine wpList_append_own _ rfl (.tmp 22) (.tmp 24) _ rfl base 5 i0 (.int .u8 0) 1 1 Try.underlying22 hi0 hz0 hz1 hz2 rfl (by decide) _ _ _ rfl (hrow.alloc _) ⟨wr.heap.size, 0, none⟩ 1 1 [.int .u8 48] rfl rfl (u8_new _ _ _) (by simp [Value.oneCell']) (by have := HL.out; simp only [maxLen]; omega) (by have := HL.out; omega) (by simp; omega) ?_; intro v' w1 hown' hgrow _))
        go_roundw
        case rel => exact ⟨k + 1, by omega, by go_num, by rw [HP.out, ← List.append_assoc]; exact own_snoc rfl hown', (hbw.alloc hbz _).grown hgrow (by simp; omega) fun g hg => (hrow.lt g hg).1⟩
        case measure => simp [intOf]; omega
      · have ht := Sx.and_plc ho hn hlt hw hb
        have HP := hide (Sx.pre_succ hb)
        clear hb
        go_wp2_with (first
          | (go_at_call 106; refine (impl_place _ _ _ _ ho (by omega) (by omega) (by omega)).mono ?_; rintro e w' ⟨rfl, rfl⟩)
          | (at_builtin; refine wpList_append_own _ rfl (.tmp 22) (.tmp 24) _ rfl base 5 i0 (.int .u8 0) 1 1 Try.underlying22 hi0 hz0 hz1 hz2 rfl (by decide) _ _ _ rfl (hrow.alloc _) ⟨wr.heap.size, 0, none⟩ 1 1 [.int .u8 49] rfl rfl (u8_new _ _ _) (by simp [Value.oneCell']) (by have := HL.out; simp only [maxLen]; omega) (by have := HL.out; omega) (by simp; omega) ?_; intro v' w1 hown' hgrow _))
        go_roundw
        case rel => exact ⟨k + 1, by omega, by go_num, by rw [HP.out, ← List.append_assoc]; exact own_snoc rfl hown', (hbw.alloc hbz _).grown hgrow (by simp; omega) fun g hg => (hrow.lt g hg).1⟩
        case measure => simp [intOf]; omega
    · have hk' : k = wd := by omega
      subst hk'
      go_wp2_with fail
      go_ret
      exact ⟨_, rfl, hrow, hbw⟩

theorem wrap_bd {n : Int} (h0 : -9223372036854775808 ≤ n) (h1 : n ≤ 9223372036854775807) : wrap64 n = n := IntWalk.wrap64_in _ ⟨h0, h1⟩

/-- The bit of spec.l1Code's round. -/
theorem Sx.shr_bit {n k : Nat} (b : Bool) (hb : n.testBit k = b) : n / 2 ^ k % 2 = if b then 1 else 0 := by
  rw [Nat.testBit_eq_decide_div_mod_eq] at hb
  cases b
  · have := of_decide_eq_false hb; simp; omega
  · have := of_decide_eq_true hb; simp; omega

theorem Sx.and_one (q : Nat) (h : q < 9223372036854775808) : bits .and .i64 (q : Int) 1 = ((q % 2 : Nat) : Int) := by
  have := i64_and_nat q 1 h (by omega)
  rw [Nat.and_one_is_mod] at this
  exact this
theorem Sx.code_dig {n k : Nat} {b : Bool} (hn : n < 1024) (hb : n.testBit k = b) : wrap64 (48 + bits .and .i64 ((n : Int) / 2 ^ k) 1) % 256 = ((Sx.dig b).toNat : Int) := by
  have hq : n / 2 ^ k < 9223372036854775808 := Nat.lt_of_le_of_lt (Nat.div_le_self _ _) (by omega)
  have e : ((n : Int) / 2 ^ k) = ((n / 2 ^ k : Nat) : Int) := by rw [Int.natCast_ediv, Int.natCast_pow]; rfl
  rw [e, Sx.and_one _ hq, Sx.shr_bit b hb]
  cases b <;> (rw [wrap_bd (by decide) (by decide)]; rfl)
theorem str_small {a : List UInt8} {b : UInt8} (h : a.length ≤ 1000) : (str a).size + (str [b]).size ≤ 9223372036854775807 := by rw [str_size, str_size]; simp; omega
theorem str_small' {a : List UInt8} {b : UInt8} (h : a.length ≤ 1000) : (str [b]).size + (str a).size ≤ 9223372036854775807 := by rw [str_size, str_size]; simp; omega

set_option maxHeartbeats 1000000 in
theorem spec_l1Code (o : Int) (n wd : Nat) (w : World) (ho : o = 0 ∨ o = 1) (hn : n < 1024) (hw : wd ≤ 10) :
    Calls Try.prog 73 #[.int .i64 o, .int .i64 n, .int .i64 wd] w fun e w' => e = .returned (.string (str (Sx.cbits (Sx.hiOf o) n wd))) ∧ Below w.heap.size w w' := by
  rcases ho with rfl | rfl
  · go_enter Try.func73, Try.ntmps73
    go_wp2_with fail
    go_loopw [7, 8, 9] (fun u i _ wr => ∃ k : Nat, k ≤ wd ∧ i = .int .i64 k ∧ u = .string (str (Sx.cbits false n k)) ∧ Below w.heap.size w wr) (fun _ i _ _ => wd - (intOf i).toNat)
    case atStart => exact ⟨0, Nat.zero_le _, rfl, rfl, Below.refl _ _⟩
    case round =>
      obtain ⟨k, hk, rfl, rfl, hbw⟩ := hrel
      by_cases hlt : k < wd
      · obtain ⟨b, hb⟩ : ∃ b, n.testBit k = b := ⟨_, rfl⟩
        have hd := Sx.code_dig hn hb
        have hcv := run_one_string (P := Try.prog) wr 22 9 5 Try.underlying22 Try.underlying5 Try.underlying9 (Sx.dig b) 5
        have hsz := str_small (a := Sx.cbits false n k) (b := Sx.dig b) (by rw [Sx.cbits_length]; omega)
        have HP := hide (Sx.cbits_low_succ n k)
        have HB := hide hb
        clear hb
        go_wp2_with fail
        go_roundw
        case rel => exact ⟨k + 1, by omega, by go_num, by rw [HP.out, HB.out, ← str_append], hbw.alloc hbw.size _⟩
        case measure => simp [intOf]; omega
      · have hk' : k = wd := by omega
        subst hk'
        go_wp2_with fail
        go_ret
        exact ⟨rfl, hbw⟩
  · have HR := hide (Sx.cbits_rev n wd)
    go_enter Try.func73, Try.ntmps73
    go_wp2_with fail
    go_loopw [7, 8, 9] (fun u i _ wr => ∃ k : Nat, k ≤ wd ∧ i = .int .i64 k ∧ u = .string (str (Sx.cbits false n k).reverse) ∧ Below w.heap.size w wr) (fun _ i _ _ => wd - (intOf i).toNat)
    case atStart => exact ⟨0, Nat.zero_le _, rfl, rfl, Below.refl _ _⟩
    case round =>
      obtain ⟨k, hk, rfl, rfl, hbw⟩ := hrel
      by_cases hlt : k < wd
      · obtain ⟨b, hb⟩ : ∃ b, n.testBit k = b := ⟨_, rfl⟩
        have hd := Sx.code_dig hn hb
        have hcv := run_one_string (P := Try.prog) wr 22 9 5 Try.underlying22 Try.underlying5 Try.underlying9 (Sx.dig b) 5
        have hsz := str_small' (a := (Sx.cbits false n k).reverse) (b := Sx.dig b) (by rw [List.length_reverse, Sx.cbits_length]; omega)
        have HP := hide (Sx.cbits_low_succ n k)
        have HB := hide hb
        clear hb
        go_wp2_with fail
        go_roundw
        case rel => exact ⟨k + 1, by omega, by go_num, by rw [HP.out, HB.out, List.reverse_append, List.reverse_singleton, ← str_append], hbw.alloc hbw.size _⟩
        case measure => simp [intOf]; omega
      · have hk' : k = wd := by omega
        subst hk'
        go_wp2_with fail
        go_ret
        exact ⟨ret_str (by rw [← HR.out]; rfl), hbw⟩
end Go.Proofs.Ytkecappciglonaa

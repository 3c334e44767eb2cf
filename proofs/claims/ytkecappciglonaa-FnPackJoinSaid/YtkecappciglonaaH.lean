/- The walks of UnpackBits and what it calls. Conditions: each argument is a value of its type. -/
import Derived.Test.YtkecappciglonaaPun
import Derived.Test.YtkecappciglonaaF
namespace Go.Proofs.Ytkecappciglonaa
open Go.RowKit

set_option maxHeartbeats 1000000 in
theorem impl_unpackBytes (o : Int) (s : ByteArray) (w : World) (ho : o = 0 ∨ o = 1) (hs : s.size ≤ 4000) :
    Calls Try.prog 75 #[.int .i64 o, .string s] w fun e w' => e = .returned (.string (str (Sx.unpackL (Sx.hiOf o) s.data.toList))) ∧ Below w.heap.size w w' := by
  obtain ⟨i0, hi0, hz0, hz1, hz2⟩ := info_parts try_info8
  go_enter Try.func75, Try.ntmps75
  go_wp2_with (at_make; refine wpList_make_own _ rfl (.const (.int .i64 0)) (.tmp 9) 22 rfl w.heap.size 5 i0 (.int .u8 0) 1 Try.underlying22 hi0 hz0 hz1 .i64 .i64 _ (8 * s.size) rfl rfl (by omega) (by rw [hz2]; omega) (by simp only [maxLen]; omega) (Nat.le_refl _) ?_; intro w1 hown1 hgrow1)
  have hb1 : Below w.heap.size w w1 := (Below.refl _ _).grown hgrow1 (Nat.le_refl _) (by simp)
  go_loopw [5, 6, 13] (fun v _ i wr => ∃ k : Nat, k ≤ s.size ∧ i = .int .i64 k ∧ wr.ownsRow w.heap.size 5 1 v (Sx.unpackL (Sx.hiOf o) (s.data.toList.take k)).length (bvals (Sx.unpackL (Sx.hiOf o) (s.data.toList.take k))) ∧ Below w.heap.size w wr) (fun _ _ i _ => s.size - (intOf i).toNat)
  case atStart => exact ⟨0, Nat.zero_le _, rfl, hown1, hb1⟩
  case round =>
    obtain ⟨k, hk, rfl, hrow, hbw⟩ := hrel
    by_cases hlt : k < s.size
    · have hlen : (Sx.unpackL (Sx.hiOf o) (s.data.toList.take k)).length ≤ 32000 := by rw [Sx.unpackL_length, List.length_take]; omega
      have hbyte := s[k].toNat_lt
      have HP := hide (Sx.unpackL_snoc (Sx.hiOf o) s k hlt)
      have hz := hbw.size
      have C := fun v wx h1 h2 => impl_appendBits o s[k].toNat 8 v w.heap.size (Sx.unpackL (Sx.hiOf o) (s.data.toList.take k)) wx ho (by omega) (by omega) (by omega) h1 h2
      rw [show ((8 : Nat) : Int) = 8 from rfl] at C
      have C := hide (C _ _ hrow hz)
      go_wp2_with fail
      refine (unhide C).mono ?_; rintro e w2 ⟨v2, rfl, hrow2, hb2⟩
      clear C
      go_wp2_with fail
      go_roundw
      case rel => exact ⟨k + 1, by omega, by go_num, by rw [HP.out]; exact hrow2, hbw.trans hb2⟩
      case measure => simp [intOf]; omega
    · have ht : s.data.toList.take k = s.data.toList := List.take_of_length_le (by rw [Sx.len_bytes]; omega)
      rw [ht] at hrow
      have hcv := run_own_string (P := Try.prog) wr 22 9 5 Try.underlying22 Try.underlying5 Try.underlying9 hrow
      clear ht
      go_wp2_with fail
      go_ret
      exact ⟨rfl, hbw⟩

set_option maxHeartbeats 1000000 in
theorem spec_l1Unpack (o : Int) (s : ByteArray) (w : World) (ho : o = 0 ∨ o = 1) (hs : s.size ≤ 4000) :
    Calls Try.prog 81 #[.int .i64 o, .string s] w fun e w' => e = .returned (.string (str (Sx.unpackL (Sx.hiOf o) s.data.toList))) ∧ Below w.heap.size w w' := by
  obtain ⟨i0, hi0, hz0, hz1, hz2⟩ := info_parts try_info8
  go_enter Try.func81, Try.ntmps81
  go_wp2_with (at_make; refine wpList_make_own _ rfl (.const (.int .i64 0)) (.tmp 9) 22 rfl w.heap.size 5 i0 (.int .u8 0) 1 Try.underlying22 hi0 hz0 hz1 .i64 .i64 _ (8 * s.size) rfl rfl (by omega) (by rw [hz2]; omega) (by simp only [maxLen]; omega) (Nat.le_refl _) ?_; intro w1 hown1 hgrow1)
  have hb1 : Below w.heap.size w w1 := (Below.refl _ _).grown hgrow1 (Nat.le_refl _) (by simp)
  go_loopw [5, 6] (fun v i wr => ∃ k : Nat, k ≤ s.size ∧ i = .int .i64 k ∧ wr.ownsRow w.heap.size 5 1 v (Sx.unpackL (Sx.hiOf o) (s.data.toList.take k)).length (bvals (Sx.unpackL (Sx.hiOf o) (s.data.toList.take k))) ∧ Below w.heap.size w wr) (fun _ i _ => s.size - (intOf i).toNat)
  case atStart => exact ⟨0, Nat.zero_le _, rfl, hown1, hb1⟩
  case round =>
    obtain ⟨k, hk, rfl, hrow, hbw⟩ := hrel
    by_cases hlt : k < s.size
    · have hlen : (Sx.unpackL (Sx.hiOf o) (s.data.toList.take k)).length ≤ 32000 := by rw [Sx.unpackL_length, List.length_take]; omega
      have hbyte := s[k].toNat_lt
      have HP := hide (Sx.unpackL_snoc (Sx.hiOf o) s k hlt)
      have hz := hbw.size
      have HS := hide (show (str (Sx.cbits (Sx.hiOf o) s[k].toNat 8)).size = 8 by rw [str_size, Sx.cbits_length])
      have C := fun wx => spec_l1Code o s[k].toNat 8 wx ho (by omega) (by omega)
      rw [show ((8 : Nat) : Int) = 8 from rfl] at C
      have C := hide C
      go_wp2_with fail
      refine (unhide C _).mono ?_; rintro e w2 ⟨rfl, hb2⟩; have hrow2 := own_below hrow hb2
      clear C
      go_wp2_with (first
        | (at_builtin; refine Lib.wpList_append_own_string _ rfl (.tmp 17) (.tmp 23) 22 9 rfl w.heap.size 5 i0 Try.underlying22 Try.underlying9 hi0 hz0 hz1 hz2 _ _ _ rfl hrow2 (str (Sx.cbits (Sx.hiOf o) s[k].toNat 8)) rfl (by rw [HS.out]; simp only [maxLen]; omega) (by rw [HS.out]; omega) (by have := hb2.size; omega) ?_; intro v3 w3 hown3 hgrow3 _))
      go_roundw
      case rel => exact ⟨k + 1, by omega, by go_num, by rw [HP.out]; exact own_join hown3, (hbw.trans (hb2.mono hz)).grown hgrow3 (by have := hb2.size; omega) fun g hg => (hrow.lt g hg).1⟩
      case measure => simp [intOf]; omega
    · have ht : s.data.toList.take k = s.data.toList := List.take_of_length_le (by rw [Sx.len_bytes]; omega)
      rw [ht] at hrow
      have hcv := run_own_string (P := Try.prog) wr 22 9 5 Try.underlying22 Try.underlying5 Try.underlying9 hrow
      clear ht
      go_wp2_with fail
      go_ret
      exact ⟨rfl, hbw⟩

set_option maxHeartbeats 400000 in
theorem spec_l1Stream (o : Int) (s : ByteArray) (w : World) (hm : s.size ≤ 9223372036854775807) :
    Calls Try.prog 72 #[.int .i64 o, .string s] w fun e w' => e = .returned (.bool (Sx.streamOK o s)) ∧ w = w' := by
  by_cases h0 : Sx.ordOK o = true
  · by_cases h1 : s.size ≤ 4000
    · have H := hide (Sx.stream_mk h0 h1)
      go_enter Try.func72, Try.ntmps72
      go_wp2_with (go_at_call 78; refine (spec_l1Order _ _).mono ?_; rintro e w' ⟨rfl, rfl⟩)
      go_ret
      exact ⟨ret_bool (by rw [H.out]; simp; omega), rfl⟩
    · have H := hide (Sx.stream_len (o := o) h1)
      go_enter Try.func72, Try.ntmps72
      go_wp2_with (go_at_call 78; refine (spec_l1Order _ _).mono ?_; rintro e w' ⟨rfl, rfl⟩)
      go_ret
      exact ⟨ret_bool (by rw [H.out]; simp; omega), rfl⟩
  · have h0 : Sx.ordOK o = false := by simpa using h0
    have H := hide (Sx.stream_ord (s := s) h0)
    go_enter Try.func72, Try.ntmps72
    go_wp2_with (go_at_call 78; refine (spec_l1Order _ _).mono ?_; rintro e w' ⟨rfl, rfl⟩)
    go_ret
    exact ⟨ret_bool H.out.symm, rfl⟩

set_option maxHeartbeats 400000 in
theorem spec_UnpackBits (o : Int) (s : ByteArray) (w : World) (hm : s.size ≤ 9223372036854775807) :
    Calls Try.prog 52 #[.int .i64 o, .string s] w fun e w' => e = .returned (.tuple #[.string (Sx.ubS o s), .bool (Sx.streamOK o s)]) ∧ Below w.heap.size w w' := by
  by_cases h0 : Sx.streamOK o s = true
  · have hy := hide (Sx.ub_yes h0)
    have hq := hide (Sx.stream_of h0)
    go_enter Try.func52, Try.ntmps52
    go_wp2_with (first
      | (go_at_call 72; refine (spec_l1Stream _ _ _ hm).mono ?_; rintro e w' ⟨rfl, rfl⟩)
      | (go_at_call 81; refine (spec_l1Unpack _ _ _ (Sx.ord_of hq.out.1) hq.out.2).mono ?_; rintro e w1 ⟨rfl, hb1⟩))
    go_ret2
    exact ⟨ret2 (vstr hy.out.symm) (vbool h0.symm), hb1⟩
  · have h0 : Sx.streamOK o s = false := by simpa using h0
    have hy := hide (Sx.ub_no h0)
    go_enter Try.func52, Try.ntmps52
    go_wp2_with (go_at_call 72; refine (spec_l1Stream _ _ _ hm).mono ?_; rintro e w' ⟨rfl, rfl⟩)
    go_ret2
    exact ⟨ret2 (vstr hy.out.symm) (vbool h0.symm), Below.refl _ _⟩

set_option maxHeartbeats 400000 in
theorem impl_UnpackBits (o : Int) (s : ByteArray) (w : World) (hm : s.size ≤ 9223372036854775807) :
    Calls Try.prog 23 #[.int .i64 o, .string s] w fun e w' => e = .returned (.tuple #[.string (Sx.ubS o s), .bool (Sx.streamOK o s)]) ∧ Below w.heap.size w w' := by
  by_cases h0 : Sx.ordOK o = true
  · by_cases h1 : s.size ≤ 4000
    · have H := hide (Sx.stream_mk h0 h1)
      have hy := hide (Sx.ub_yes H.out)
      have ho := hide (Sx.ord_of h0)
      go_enter Try.func23, Try.ntmps23
      go_wp2_with (first
        | (go_at_call 74; refine (impl_orderValid _ _).mono ?_; rintro e w' ⟨rfl, rfl⟩)
        | (go_at_call 75; refine (impl_unpackBytes _ _ _ ho.out h1).mono ?_; rintro e w1 ⟨rfl, hb1⟩))
      go_ret2
      exact ⟨ret2 (vstr hy.out.symm) (vbool H.out.symm), hb1⟩
    · have H := hide (Sx.stream_len (o := o) h1)
      have hy := hide (Sx.ub_no H.out)
      go_enter Try.func23, Try.ntmps23
      go_wp2_with (go_at_call 74; refine (impl_orderValid _ _).mono ?_; rintro e w' ⟨rfl, rfl⟩)
      go_ret2
      exact ⟨ret2 (vstr hy.out.symm) (vbool H.out.symm), Below.refl _ _⟩
  · have h0 : Sx.ordOK o = false := by simpa using h0
    have H := hide (Sx.stream_ord (s := s) h0)
    have hy := hide (Sx.ub_no H.out)
    go_enter Try.func23, Try.ntmps23
    go_wp2_with (go_at_call 74; refine (impl_orderValid _ _).mono ?_; rintro e w' ⟨rfl, rfl⟩)
    go_ret2
    exact ⟨ret2 (vstr hy.out.symm) (vbool H.out.symm), Below.refl _ _⟩
end Go.Proofs.Ytkecappciglonaa

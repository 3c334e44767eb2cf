/- The walks of the drawn bits and strings. Conditions: a slice of at most 1048576 bytes. -/
import Derived.Test.YtkecappciglonaaDr3
import Derived.Test.YtkecappciglonaaPhex
import Derived.Test.YtkecappciglonaaK
namespace Go.Proofs.Ytkecappciglonaa
open Go.RowKit

set_option maxRecDepth 100000 in
set_option maxHeartbeats 1000000 in
theorem rd_of (B g p b m c : Nat) (Pr : ByteArray → Prop) (w : World) (h : Rd w B g p) (hp : p ≤ 10000000) (hm : 1 ≤ m) (hm2 : m ≤ 1000) (hbg : b ≠ g)
    (hcell : ∀ i, i < m → ∃ x : ByteArray, Pr x ∧ w.cell? ⟨b, i, none⟩ = some (.string x)) :
    Calls Try.prog 92 #[.pointer (some ⟨g, 0, none⟩), .slice (some ⟨b, 0, none⟩) m c] w fun e w' => ∃ x : ByteArray, e = .returned (.string x) ∧ Pr x ∧ Rd w' B g (p + 1) ∧ w.grownBy w' (some g) := by
  have HP := hide hcell
  clear hcell
  go_enter Try.func92, Try.ntmps92
  go_wp2_with fail
  refine (rd_pick B g p m w h hp (by omega) (by omega)).mono ?_
  rintro e w1 ⟨v, rfl, v0, v1, _, hr, hg⟩
  obtain ⟨V, rfl⟩ := Int.eq_ofNat_of_zero_le v0
  have v2 : V < m := by have := v1 (by omega); omega
  obtain ⟨x, px, hx⟩ := HP.out V v2
  have hx1 := hg.cell hx (by simpa using hbg)
  clear v1 hx
  go_wp2_with fail
  go_ret
  exact ⟨x, rfl, px, hr, hg⟩

theorem strs_new (w : World) (t : TypeId) (Q : ByteArray → Prop) (l : List ByteArray) (h : ∀ x ∈ l, Q x) : ∀ i, i < l.length → ∃ x : ByteArray, Q x ∧ (w.alloc (.cells (l.map Value.string).toArray t)).cell? ⟨w.heap.size, i, none⟩ = some (.string x) := fun i hi => by
  refine ⟨l[i], h _ (List.getElem_mem _), ?_⟩
  have hb : Blk (w.alloc (.cells (l.map Value.string).toArray t)) w.heap.size t (l.map Value.string).toArray := Blk.new w t _
  rw [hb.cell]
  simp [hi]
theorem of_list {B g p c : Nat} {Q : ByteArray → Prop} {w : World} (l : List ByteArray) (t : TypeId) (h : Rd w B g p) (hp : p ≤ 10000000) (hl : 1 ≤ l.length) (hl2 : l.length ≤ 1000) (hQ : ∀ x ∈ l, Q x) :
    Calls Try.prog 92 #[.pointer (some ⟨g, 0, none⟩), .slice (some ⟨w.heap.size, 0, none⟩) l.length c] (w.alloc (.cells (l.map Value.string).toArray t)) fun e w' => ∃ x : ByteArray, e = .returned (.string x) ∧ Q x ∧ Rd w' B g (p + 1) ∧ w.grownBy w' (some g) := by
  have hr : Rd (w.alloc (.cells (l.map Value.string).toArray t)) B g p := h.below ((Below.refl _ _).alloc (Nat.le_refl _) _)
  refine (rd_of B g p w.heap.size l.length c Q _ hr hp hl hl2 (by have := h.lt; omega) fun i hi => strs_new w t Q l hQ i hi).mono ?_
  rintro e w' ⟨x, rfl, hx, h1, h2⟩
  exact ⟨x, rfl, hx, h1, ⟨h2.os, h2.tape, h2.output, Nat.le_trans (by simp) h2.size, fun k hk hne => (h2.block k (by simp; omega) hne).trans (Below.heap_alloc w _ k hk)⟩⟩

theorem bit_int {x : Int} (h0 : 0 ≤ x) (h1 : x < 2) : IntKind.u8.wrap (48 + x) = ((UInt8.ofNat (48 + x).toNat).toNat : Int) := by
  rw [Sx.byte_num (by omega), IntKind.wrap_u8]; omega

set_option maxRecDepth 100000 in
set_option maxHeartbeats 1000000 in
theorem rd_bits (B g p m : Nat) (w : World) (h : Rd w B g p) (hp : p ≤ 8000000) (hm : m ≤ 10000) :
    Calls Try.prog 99 #[.pointer (some ⟨g, 0, none⟩), .int .i64 m] w (RdS m B g p (m + 1) w) := by
  obtain ⟨i0, hi0, hz0, hz1, hz2⟩ := info_parts try_info8
  have hglt := h.lt
  go_enter Try.func99, Try.ntmps99
  go_wp2_with (at_make; refine wpList_make_own _ rfl (.const (.int .i64 0)) (.tmp 7) 22 rfl w.heap.size 5 i0 (.int .u8 0) 1 Try.underlying22 hi0 hz0 hz1 .i64 .i64 _ m rfl rfl rfl (by rw [hz2]; omega) (by simp only [maxLen]; omega) (Nat.le_refl _) ?_; intro w1 hown1 hgrow1)
  have hb1 : Below w.heap.size w w1 := (Below.refl _ _).grown hgrow1 (Nat.le_refl _) (by simp)
  have hr1 := h.below hb1
  have hg1 := below_grownBy hb1 (some g)
  have C := hide (rd_pick B g p ((m : Int) + 1) w1 hr1 (by omega) (by omega) (by omega))
  go_wp2_with fail
  refine (unhide C).mono ?_; rintro e w2 ⟨v, rfl, v0, v1, _, hr2, hg2⟩
  clear C
  have v2 := v1 (by omega)
  clear v1
  obtain ⟨V, rfl⟩ := Int.eq_ofNat_of_zero_le v0
  have hown2 := own_grown hown1 hg2 hglt
  have hg12 := grown_trans' hg1 hg2
  clear hown1 hgrow1 hb1 hr1 hg1 hg2 h
  go_wp2_with fail
  go_loopw [5, 6] (fun u i wr => ∃ (k : Nat) (l : List UInt8), l.length + k = V ∧ i = .int .i64 k ∧ wr.ownsRow w.heap.size 5 1 u l.length (bvals l) ∧ Rd wr B g (p + 1 + l.length) ∧ w.grownBy wr (some g)) (fun _ i _ => (intOf i).toNat)
  case atStart => exact ⟨V, [], by simp, rfl, hown2, hr2, hg12⟩
  case round =>
    obtain ⟨k, l, hkl, rfl, hrow, hr, hg⟩ := hrel
    have HK := hide hkl
    have hle : l.length ≤ 10000 := by omega
    have hk : k ≤ 10000 := by omega
    clear hkl
    have hsz := hg.size
    by_cases hlt : 0 < k
    · have C := hide (rd_pick B g (p + 1 + l.length) 2 wr hr (by omega) (by omega) (by omega))
      go_wp2_with fail
      refine (unhide C).mono ?_; rintro e w3 ⟨x, rfl, x0, x1, _, hr3, hg3⟩
      clear C
      have x2 := x1 (by omega)
      clear x1
      have HX := hide (bit_int x0 x2)
      have hrow3 := own_grown hrow hg3 hglt
      have hsz3 := hg3.size
      go_wp2_with (at_builtin; refine wpList_append_own _ rfl (.tmp 17) (.tmp 22) _ rfl w.heap.size 5 i0 (.int .u8 0) 1 1 Try.underlying22 hi0 hz0 hz1 hz2 rfl (by decide) _ _ _ rfl (hrow3.alloc _) ⟨w3.heap.size, 0, none⟩ 1 1 [.int .u8 (48 + x)] rfl rfl (u8_new _ _ _) (by simp [Value.oneCell']) (by simp only [maxLen]; omega) (by omega) (by simp; omega) ?_; intro v' w4 hown' hgrow _)
      go_roundw
      case rel =>
        refine ⟨k - 1, l ++ [UInt8.ofNat (48 + x).toNat], ?_, vint (by omega), own_snoc (byte_int (by omega) (by omega)) hown', ?_, ?_⟩
        · have := HK.out
          rw [List.length_append]; simp; omega
        · have hr4 := rd_grown (hr3.below ((Below.refl _ _).alloc (Nat.le_refl _) _)) (hrow3.alloc _) hgrow hglt
          rw [List.length_append]
          exact hr4
        · exact grown_any (only_alloc (grown_trans' hg hg3) _) (hrow3.alloc _) (Nat.le_refl _) hgrow
      case measure => simp [intOf]; omega
    · have hcv := run_own_string (P := Try.prog) wr 22 9 5 Try.underlying22 Try.underlying5 Try.underlying9 hrow
      have hm2 : l.length ≤ m := by have := HK.out; omega
      go_wp2_with fail
      go_ret
      exact ⟨l, rfl, hm2, _, by omega, hr, hg⟩

set_option maxRecDepth 100000 in
set_option maxHeartbeats 1000000 in
theorem draw_BitsCode (A : Option Addr) (n c : Nat) (w : World) (h : Src w w.heap.size A n) (hn : n ≤ 1048576) (hc : n ≤ c) (hcm : c ≤ maxLen) :
    Calls Try.prog 57 #[.slice A n c] w (DrawIS 12 w) := by
  unfold maxLen at hcm
  have HO := hide (rd_open A n c w h hn hc hcm)
  clear h
  go_enter Try.func57, Try.ntmps57
  go_wp2_with fail
  refine (unhide HO).mono ?_; rintro e w1 ⟨g, rfl, hr1, hb1⟩
  clear HO
  have C := rd_bits _ g 0 11 w1 hr1 (by omega) (by omega)
  rw [show ((11 : Nat) : Int) = 11 from rfl] at C
  have C := hide C
  go_wp2_with fail
  refine (unhide C).mono ?_; rintro e w2 ⟨l, rfl, hl, p2, hp2, hr2, hg2⟩
  clear C
  have hb2 := draw_next (Nat.le_refl _) hb1 hr1 hg2
  clear hb1 hr1 hg2
  go_wp2_with fail
  refine (rd_pick _ g p2 20 w2 hr2 (by omega) (by omega) (by omega)).mono ?_; rintro e w3 ⟨v, rfl, v0, v1, _, hr3, hg3⟩
  have hb3 := draw_next (Nat.le_refl _) hb2 hr2 hg3
  clear hb2 hr2 hg3 v1
  have hz : (str l).size ≤ 11 := by rw [str_size]; exact hl
  by_cases h0 : v = 0
  · subst h0
    clear v0
    have HC := hide (show str l ++ ({ data := #[50] } : ByteArray) = str (l ++ [50]) from str_append l [50])
    have hz2 : (str l).size + ({ data := #[50] } : ByteArray).size ≤ 9223372036854775807 := by rw [show ({ data := #[50] } : ByteArray).size = 1 from rfl]; omega
    go_wp2_with fail
    refine (rd_which _ g _ _ hr3 (by omega)).mono ?_; rintro e w7 ⟨o, rfl, ho, p', _, hr7, hg7⟩
    go_wp2_with fail
    go_ret2
    exact ⟨o, l ++ [50], ret2 rfl (vstr HC.out), ho, by simp; omega, draw_next (Nat.le_refl _) hb3 hr3 hg7⟩
  · have h00 : (v == 0) = false := by simpa using h0
    clear v0 h0
    go_wp2_with fail
    refine (rd_which _ g _ _ hr3 (by omega)).mono ?_; rintro e w7 ⟨o, rfl, ho, p', _, hr7, hg7⟩
    go_wp2_with fail
    go_ret2
    exact ⟨o, l, rfl, ho, by omega, draw_next (Nat.le_refl _) hb3 hr3 hg7⟩

set_option maxRecDepth 100000 in
set_option maxHeartbeats 1000000 in
theorem draw_BitsValid (A : Option Addr) (n c : Nat) (w : World) (h : Src w w.heap.size A n) (hn : n ≤ 1048576) (hc : n ≤ c) (hcm : c ≤ maxLen) :
    Calls Try.prog 101 #[.slice A n c] w (DrawS 32001 w) := by
  unfold maxLen at hcm
  have HO := hide (rd_open A n c w h hn hc hcm)
  clear h
  go_enter Try.func101, Try.ntmps101
  go_wp2_with fail
  refine (unhide HO).mono ?_; rintro e w1 ⟨g, rfl, hr1, hb1⟩
  clear HO
  have C := rd_bits _ g 0 40 w1 hr1 (by omega) (by omega)
  rw [show ((40 : Nat) : Int) = 40 from rfl] at C
  have C := hide C
  go_wp2_with fail
  refine (unhide C).mono ?_; rintro e w2 ⟨l, rfl, hl, p2, hp2, hr2, hg2⟩
  clear C
  have hb2 := draw_next (Nat.le_refl _) hb1 hr1 hg2
  clear hb1 hr1 hg2
  go_wp2_with fail
  refine (rd_pick _ g p2 30 w2 hr2 (by omega) (by omega) (by omega)).mono ?_; rintro e w3 ⟨v, rfl, v0, v1, _, hr3, hg3⟩
  have hb3 := draw_next (Nat.le_refl _) hb2 hr2 hg3
  clear hb2 hr2 hg3 v1
  have hz : (str l).size ≤ 40 := by rw [str_size]; exact hl
  by_cases h0 : v = 0
  · subst h0
    clear v0
    go_wp2_with fail
    refine (of_list [{ data := #[50] }, { data := #[32] }, { data := #[97] }] 9 hr3 (by omega) (by decide) (by decide) (Q := fun x => x.size = 1) (by intro x hx; simp at hx; rcases hx with rfl | rfl | rfl <;> rfl)).mono ?_
    rintro e w4 ⟨x, rfl, hx, hr4, hg4⟩
    have hz2 : (str l).size + x.size ≤ 9223372036854775807 := by omega
    go_wp2_with fail
    go_ret
    exact ⟨(str l ++ x).data.toList, ret_str (str_self _).symm, by rw [Sx.len_bytes, ByteArray.size_append]; omega, draw_next (Nat.le_refl _) hb3 hr3 hg4⟩
  · have h00 : (v == 0) = false := by simpa using h0
    by_cases h1 : v = 1
    · subst h1
      clear v0 h0 h00
      go_wp2_with fail
      refine (num_list [32000, 32001] 3 hr3 (by omega) (by decide) (by decide) (Q := fun x => x = 32000 ∨ x = 32001) (by simp)).mono ?_
      rintro e w4 ⟨x, rfl, hx, hr4, hg4⟩
      have hb4 := draw_next (Nat.le_refl _) hb3 hr3 hg4
      obtain ⟨N, rfl⟩ := Int.eq_ofNat_of_zero_le (show 0 ≤ x by omega)
      have hN : N ≤ 32001 := by omega
      clear hx hb3 hr3 hg4
      have C := hide (spec_l9Many [49] N w4 (by simp; omega) (by omega))
      go_wp2_with fail
      refine (unhide C).mono ?_; rintro e w5 ⟨rfl, rfl⟩
      clear C
      go_wp2_with fail
      go_ret
      exact ⟨Sx.rep N [49], rfl, by rw [Sx.rep_length]; simp; omega, hb4⟩
    · have h11 : (v == 1) = false := by simpa using h1
      clear v0 h0 h1
      go_wp2_with fail
      go_ret
      exact ⟨l, rfl, by omega, hb3⟩

set_option maxRecDepth 100000 in
set_option maxHeartbeats 1000000 in
theorem draw_PackBits (A : Option Addr) (n c : Nat) (w : World) (h : Src w w.heap.size A n) (hn : n ≤ 1048576) (hc : n ≤ c) (hcm : c ≤ maxLen) :
    Calls Try.prog 63 #[.slice A n c] w (DrawIS 32001 w) := by
  have HO := hide (draw_BitsValid A n c w h hn hc hcm)
  unfold maxLen at hcm
  have HR := hide (fun (w1 : World) (hb : Below w.heap.size w w1) => rd_open A n c w1 (h.next hb) hn hc hcm)
  clear h
  go_enter Try.func63, Try.ntmps63
  go_wp2_with fail
  refine (unhide HO).mono ?_; rintro e w1 ⟨l, rfl, hl, hb1⟩
  have C := hide ((unhide HR) w1 hb1)
  clear HO HR
  go_wp2_with fail
  refine (unhide C).mono ?_; rintro e w2 ⟨g, rfl, hr2, hb2⟩
  have hb2 := below_next (Nat.le_refl _) hb1 hb2
  have hgB : w.heap.size ≤ g := Nat.le_trans hb1.size hr2.1
  clear C hb1
  go_wp2_with fail
  refine (rd_which _ g _ _ hr2 (by omega)).mono ?_; rintro e w7 ⟨o, rfl, ho, p', _, hr7, hg7⟩
  go_wp2_with fail
  go_ret2
  exact ⟨o, l, rfl, ho, hl, draw_past (Nat.le_refl _) hb2 hgB hg7⟩
end Go.Proofs.Ytkecappciglonaa

/- The walk of the drawn hexadecimal texts. Conditions: a slice of at most 1048576 bytes. -/
import Derived.Test.YtkecappciglonaaDr6
import Derived.Deep.RegionLaw
namespace Go.Proofs.Ytkecappciglonaa
open Go.RowKit

theorem of_list_drew {B g p c : Nat} {Q : ByteArray → Prop} {w : World} (l : List ByteArray) (t : TypeId) (h : Rd w B g p) (hp : p ≤ 10000000) (hl : 1 ≤ l.length) (hl2 : l.length ≤ 1000) (hQ : ∀ x ∈ l, Q x) :
    Calls Try.prog 92 #[.pointer (some ⟨g, 0, none⟩), .slice (some ⟨w.heap.size, 0, none⟩) l.length c] ((w.alloc (.cells (l.map Value.string).toArray t)).drew) fun e w' => ∃ x : ByteArray, e = .returned (.string x) ∧ Q x ∧ Rd w' B g (p + 1) ∧ w.grownBy w' (some g) := by
  have hr : Rd ((w.alloc (.cells (l.map Value.string).toArray t)).drew) B g p := (h.below ((Below.refl _ _).alloc (Nat.le_refl _) _) : Rd (w.alloc (.cells (l.map Value.string).toArray t)) B g p)
  refine (rd_of B g p w.heap.size l.length c Q _ hr hp hl hl2 (by have := h.lt; omega) fun i hi => strs_new w t Q l hQ i hi).mono ?_
  rintro e w' ⟨x, rfl, hx, h1, h2⟩
  exact ⟨x, rfl, hx, h1, ⟨h2.os, h2.tape, h2.output, Nat.le_trans (by simp) h2.size, fun k hk hne => (h2.block k (by simp; omega) hne).trans (Below.heap_alloc w _ k hk)⟩⟩

theorem Sx.empty_yes {t : ByteArray} (h : t.size = 0) : t.toList.isEmpty = true := by
  have : t.toList.length = 0 := by rw [← h]; simp [ByteArray.toList_eq]
  rw [List.isEmpty_iff]; exact List.eq_nil_of_length_eq_zero this
theorem Sx.empty_no {t : ByteArray} (h : ¬ t.size = 0) : t.toList.isEmpty = false := by
  have : t.toList.length ≠ 0 := by intro hh; apply h; rw [← hh]; simp [ByteArray.toList_eq]
  cases hq : t.toList with
  | nil => rw [hq] at this; exact absurd rfl this
  | cons => rfl
theorem Sx.fhexS_size (s : ByteArray) (h : s.size ≤ 10) : (Sx.fhexS s).size ≤ 20 := by
  rw [Sx.fhexS_yes (by omega), str_size, Sx.fhex_length, Sx.len_bytes]; omega

set_option maxRecDepth 100000 in
set_option maxHeartbeats 1000000 in
theorem draw_ParseHex (A : Option Addr) (n c : Nat) (w : World) (h : Src w w.heap.size A n) (hn : n ≤ 1048576) (hc : n ≤ c) (hcm : c ≤ maxLen) :
    Calls Try.prog 46 #[.slice A n c] w (DrawS 100 w) := by
  unfold maxLen at hcm
  have HO := hide (rd_open A n c w h hn hc hcm)
  clear h
  go_enter Try.func46, Try.ntmps46
  go_wp2_with fail
  refine (unhide HO).mono ?_; rintro e w1 ⟨g, rfl, hr1, hb1⟩
  clear HO
  have C := rd_bytes _ g 0 10 w1 hr1 (by omega) (by omega)
  rw [show ((10 : Nat) : Int) = 10 from rfl] at C
  have C := hide C
  go_wp2_with fail
  refine (unhide C).mono ?_; rintro e w2 ⟨l, rfl, hl, p2, hp2, hr2, hg2⟩
  clear C
  have hb2 := draw_next (Nat.le_refl _) hb1 hr1 hg2
  clear hb1 hr1 hg2
  have HT := hide (Sx.fhexS_size (str l) (by rw [str_size]; exact hl))
  have C := hide (spec_FormatHex (str l) w2 (by rw [str_size]; omega))
  go_wp2_with fail
  refine (unhide C).mono ?_; rintro e w3 ⟨rfl, hb3⟩
  clear C
  have ht := HT.out
  generalize Sx.fhexS (str l) = t at ht
  have hr3 := hr2.below hb3
  have hb3 := below_next (Nat.le_refl _) hb2 hb3
  clear hb2 hr2 hl HT
  go_wp2_with fail
  refine (rd_pick _ g p2 2 w3 hr3 (by omega) (by omega) (by omega)).mono ?_; rintro e w4 ⟨v, rfl, v0, v1, _, hr4, hg4⟩
  have hb4 := draw_next (Nat.le_refl _) hb3 hr3 hg4
  clear hb3 hr3 hg4 v1
  by_cases h0 : v = 0
  · subst h0
    clear v0
    go_wp2_with fail
    go_ret
    exact ⟨t.data.toList, ret_str (str_self t).symm, by rw [Sx.len_bytes]; omega, hb4⟩
  · have h00 : (v == 0) = false := by simpa using h0
    clear v0 h0
    by_cases h1 : t.size = 0
    · have he : t.toList.isEmpty = true := Sx.empty_yes h1
      go_wp2_with fail
      go_ret
      exact ⟨t.data.toList, ret_str (str_self t).symm, by rw [Sx.len_bytes]; omega, hb4⟩
    · have he : t.toList.isEmpty = false := Sx.empty_no h1
      have C := hide (rd_pick _ g (p2 + 1) (t.size : Int) w4 hr4 (by omega) (by omega) (by omega))
      go_wp2_with fail
      refine (unhide C).mono ?_; rintro e w5 ⟨k, rfl, k0, k1, _, hr5, hg5⟩
      clear C
      have hb5 := draw_next (Nat.le_refl _) hb4 hr4 hg5
      have k2 := k1 (by omega)
      obtain ⟨V, rfl⟩ := Int.eq_ofNat_of_zero_le k0
      clear k1 hb4 hr4 hg5
      have hV : V ≤ t.size := by omega
      have CO := hide (of_list_drew [{ data := #[] }, { data := #[48] }, { data := #[103] }, { data := #[65] }, { data := #[102, 102] }] 9 hr5 (by omega) (by decide) (by decide) (c := 5) (Q := fun x => x.size ≤ 2) (by intro x hx; simp at hx; rcases hx with rfl | rfl | rfl | rfl | rfl <;> decide))
      have QQ : ∀ q : Int, 0 ≤ q → q < 2 → IntKind.i64.wrap ((V : Int) + q) = (V : Int) + q ∧ (0 : Int) ≤ (V : Int) + q ∧ (V : Int) + q ≤ (t.size : Int) ∧ ((V : Int) + q).toNat ≤ t.size := fun q h1 h2 => ⟨IntWalk.i64_in _ (by omega), by omega, by omega, by omega⟩
      go_wp2_with fail
      go_region_with (first
        | (go_at_call 92; refine (unhide CO).mono ?_; rintro e w6 ⟨x, rfl, hx, hr6, hg6⟩; have hs1 : (t.extract 0 V).size + x.size ≤ 9223372036854775807 := by rw [ByteArray.size_extract]; omega)
        | (go_at_call 66; refine (rd_pick _ g _ 2 _ hr6 (by omega) (by omega) (by omega)).mono ?_; rintro e w7 ⟨q, rfl, q0, q1, _, hr7, hg7⟩; obtain ⟨q4, q5, q6, q7⟩ := QQ q q0 (q1 (by omega))))
      all_goals go_wp2
      all_goals first
        | omega
        | (go_ret; exact ⟨_, ret_str (str_self _).symm, by rw [Sx.len_bytes]; simp only [ByteArray.size_append, ByteArray.size_extract]; omega, draw_next (Nat.le_refl _) hb5 hr5 (grown_trans' hg6 hg7)⟩)

set_option maxRecDepth 100000 in
set_option maxHeartbeats 1000000 in
theorem draw_FormatHex (A : Option Addr) (n c : Nat) (w : World) (h : Src w w.heap.size A n) (hn : n ≤ 1048576) (hc : n ≤ c) (hcm : c ≤ maxLen) :
    Calls Try.prog 42 #[.slice A n c] w (DrawS 4001 w) := by
  have HO := hide (draw_TurnBytes A n c w h hn hc hcm)
  clear h
  go_enter Try.func42, Try.ntmps42
  go_wp2_with fail
  refine (unhide HO).mono ?_; rintro e w1 ⟨l, rfl, hl, hb1⟩
  go_wp2_with fail
  go_ret
  exact ⟨l, rfl, hl, hb1⟩

set_option maxRecDepth 100000 in
set_option maxHeartbeats 1000000 in
theorem draw_PadBits (A : Option Addr) (n c : Nat) (w : World) (h : Src w w.heap.size A n) (hn : n ≤ 1048576) (hc : n ≤ c) (hcm : c ≤ maxLen) :
    Calls Try.prog 59 #[.slice A n c] w (DrawS 32001 w) := by
  have HO := hide (draw_BitsValid A n c w h hn hc hcm)
  clear h
  go_enter Try.func59, Try.ntmps59
  go_wp2_with fail
  refine (unhide HO).mono ?_; rintro e w1 ⟨l, rfl, hl, hb1⟩
  go_wp2_with fail
  go_ret
  exact ⟨l, rfl, hl, hb1⟩
end Go.Proofs.Ytkecappciglonaa

/- The walks of the drawn streams. Conditions: a slice of at most 1048576 bytes. -/
import Derived.Test.YtkecappciglonaaDr2
import Derived.Test.YtkecappciglonaaM
namespace Go.Proofs.Ytkecappciglonaa
open Go.RowKit

/-- A function of the reader that returns a string of at most m bytes. -/
def RdS (m B g p d : Nat) (w : World) (e : Ending) (w' : World) : Prop := ∃ l : List UInt8, e = .returned (.string (str l)) ∧ l.length ≤ m ∧ ∃ p', p' ≤ p + d ∧ Rd w' B g p' ∧ w.grownBy w' (some g)
theorem own_grown {w w1 : World} {base g : Nat} {e : TypeId} {size n : Nat} {v : Value} {xs : List Value} (h : w.ownsRow base e size v n xs) (hg : w.grownBy w1 (some g)) (hne : g < base) : w1.ownsRow base e size v n xs :=
  h.kept hg (.inr fun hv => by have := (h.lt g hv).1; omega)
theorem rd_grown {w w1 : World} {B g p base : Nat} {e : TypeId} {size n : Nat} {v : Value} {xs : List Value} (h : Rd w B g p) (hown : w.ownsRow base e size v n xs) (hg : w.grownBy w1 v.ownBlock) (hne : g < base) : Rd w1 B g p := by
  have hlt := h.lt
  refine h.keep (hg.block g hlt fun hv => by have := (hown.lt g hv.symm).1; omega) fun k hk => hg.block k (by have := h.1; omega) fun hv => by have := (hown.lt k hv.symm).1; have := h.1; omega
theorem grown_any {a b c : World} {g : Nat} {e : TypeId} {base size n : Nat} {v : Value} {xs : List Value} (h : a.grownBy b (some g)) (hown : b.ownsRow base e size v n xs) (hbase : a.heap.size ≤ base) (k : b.grownBy c v.ownBlock) : a.grownBy c (some g) :=
  ⟨k.os.trans h.os, k.tape.trans h.tape, k.output.trans h.output, Nat.le_trans h.size k.size, fun i hi hne => (k.block i (Nat.lt_of_lt_of_le hi h.size) fun hv => by have := (hown.lt i hv.symm).1; omega).trans (h.block i hi hne)⟩
theorem byte_int {x : Int} (h0 : 0 ≤ x) (h1 : x < 256) : x = ((UInt8.ofNat x.toNat).toNat : Int) := by rw [Sx.byte_num (by omega)]; omega

set_option maxRecDepth 100000 in
set_option maxHeartbeats 1000000 in
theorem rd_bytes (B g p m : Nat) (w : World) (h : Rd w B g p) (hp : p ≤ 8000000) (hm : m ≤ 10000) :
    Calls Try.prog 70 #[.pointer (some ⟨g, 0, none⟩), .int .i64 m] w (RdS m B g p (m + 1) w) := by
  obtain ⟨i0, hi0, hz0, hz1, hz2⟩ := info_parts try_info8
  have hglt := h.lt
  go_enter Try.func70, Try.ntmps70
  go_wp2_with (at_make; refine wpList_make_own _ rfl (.const (.int .i64 0)) (.tmp 7) 22 rfl w.heap.size 5 i0 (.int .u8 0) 1 Try.underlying22 hi0 hz0 hz1 .i64 .i64 _ m rfl rfl rfl (by rw [hz2]; omega) (by simp only [maxLen]; omega) (Nat.le_refl _) ?_; intro w1 hown1 hgrow1)
  have hb1 : Below w.heap.size w w1 := (Below.refl _ _).grown hgrow1 (Nat.le_refl _) (by simp)
  have hr1 := h.below hb1
  have hg1 := below_grownBy hb1 (some g)
  have C := hide (rd_pick B g p ((m : Int) + 1) w1 hr1 (by omega) (by omega) (by omega))
  go_wp2_with fail
  refine (unhide C).mono ?_; rintro e w2 ⟨v, rfl, v0, v1, _, hr2, hg2⟩
  clear C
  have v2 := v1 (by omega)
  clear v1
  obtain ⟨V, rfl⟩ := Int.eq_ofNat_of_zero_le v0
  have hown2 := own_grown hown1 hg2 hglt
  have hg12 := grown_trans' hg1 hg2
  clear hown1 hgrow1 hb1 hr1 hg1 hg2 h
  go_wp2_with fail
  go_loopw [5, 6] (fun u i wr => ∃ (k : Nat) (l : List UInt8), l.length + k = V ∧ i = .int .i64 k ∧ wr.ownsRow w.heap.size 5 1 u l.length (bvals l) ∧ Rd wr B g (p + 1 + l.length) ∧ w.grownBy wr (some g)) (fun _ i _ => (intOf i).toNat)
  case atStart => exact ⟨V, [], by simp, rfl, hown2, hr2, hg12⟩
  case round =>
    obtain ⟨k, l, hkl, rfl, hrow, hr, hg⟩ := hrel
    have HK := hide hkl
    have hle : l.length ≤ 10000 := by omega
    have hk : k ≤ 10000 := by omega
    clear hkl
    have hsz := hg.size
    by_cases hlt : 0 < k
    · have C := hide (rd_pick B g (p + 1 + l.length) 256 wr hr (by omega) (by omega) (by omega))
      go_wp2_with fail
      refine (unhide C).mono ?_; rintro e w3 ⟨x, rfl, x0, x1, _, hr3, hg3⟩
      clear C
      have x2 := x1 (by omega)
      clear x1
      have hrow3 := own_grown hrow hg3 hglt
      have hsz3 := hg3.size
      go_wp2_with (at_builtin; refine wpList_append_own _ rfl (.tmp 17) (.tmp 21) _ rfl w.heap.size 5 i0 (.int .u8 0) 1 1 Try.underlying22 hi0 hz0 hz1 hz2 rfl (by decide) _ _ _ rfl (hrow3.alloc _) ⟨w3.heap.size, 0, none⟩ 1 1 [.int .u8 x] rfl rfl (u8_new _ _ _) (by simp [Value.oneCell']) (by simp only [maxLen]; omega) (by omega) (by simp; omega) ?_; intro v' w4 hown' hgrow _)
      go_roundw
      case rel =>
        refine ⟨k - 1, l ++ [UInt8.ofNat x.toNat], ?_, vint (by omega), own_snoc (byte_int x0 x2) hown', ?_, ?_⟩
        · have := HK.out
          rw [List.length_append]; simp; omega
        · have hr4 := rd_grown (hr3.below ((Below.refl _ _).alloc (Nat.le_refl _) _)) (hrow3.alloc _) hgrow hglt
          rw [List.length_append]
          exact hr4
        · exact grown_any (only_alloc (grown_trans' hg hg3) _) (hrow3.alloc _) (Nat.le_refl _) hgrow
      case measure => simp [intOf]; omega
    · have hcv := run_own_string (P := Try.prog) wr 22 9 5 Try.underlying22 Try.underlying5 Try.underlying9 hrow
      have hm2 : l.length ≤ m := by have := HK.out; omega
      go_wp2_with fail
      go_ret
      exact ⟨l, rfl, hm2, _, by omega, hr, hg⟩

/-- A draw of an int and a string of at most m bytes. -/
def DrawIS (m : Nat) (w : World) (e : Ending) (w' : World) : Prop := ∃ (a : Int) (l : List UInt8), e = .returned (.tuple #[.int .i64 a, .string (str l)]) ∧ Fits a ∧ l.length ≤ m ∧ Below w.heap.size w w'
def DrawS (m : Nat) (w : World) (e : Ending) (w' : World) : Prop := ∃ l : List UInt8, e = .returned (.string (str l)) ∧ l.length ≤ m ∧ Below w.heap.size w w'

set_option maxRecDepth 100000 in
set_option maxHeartbeats 1000000 in
theorem draw_UnpackBits (A : Option Addr) (n c : Nat) (w : World) (h : Src w w.heap.size A n) (hn : n ≤ 1048576) (hc : n ≤ c) (hcm : c ≤ maxLen) :
    Calls Try.prog 51 #[.slice A n c] w (DrawIS 4001 w) := by
  unfold maxLen at hcm
  have HO := hide (rd_open A n c w h hn hc hcm)
  clear h
  go_enter Try.func51, Try.ntmps51
  go_wp2_with fail
  refine (unhide HO).mono ?_; rintro e w1 ⟨g, rfl, hr1, hb1⟩
  clear HO
  have C := rd_bytes _ g 0 12 w1 hr1 (by omega) (by omega)
  rw [show ((12 : Nat) : Int) = 12 from rfl] at C
  have C := hide C
  go_wp2_with fail
  refine (unhide C).mono ?_; rintro e w2 ⟨l, rfl, hl, p2, hp2, hr2, hg2⟩
  clear C
  have hb2 := draw_next (Nat.le_refl _) hb1 hr1 hg2
  clear hb1 hr1 hg2
  go_wp2_with fail
  refine (rd_pick _ g p2 30 w2 hr2 (by omega) (by omega) (by omega)).mono ?_; rintro e w3 ⟨v, rfl, v0, v1, _, hr3, hg3⟩
  have hb3 := draw_next (Nat.le_refl _) hb2 hr2 hg3
  clear hb2 hr2 hg3 v1
  by_cases h0 : v = 0
  · subst h0
    clear v0
    go_wp2_with fail
    refine (num_list [4000, 4001] 3 hr3 (by omega) (by decide) (by decide) (Q := fun x => x = 4000 ∨ x = 4001) (by simp)).mono ?_
    rintro e w4 ⟨x, rfl, hx, hr4, hg4⟩
    have hb4 := draw_next (Nat.le_refl _) hb3 hr3 hg4
    obtain ⟨N, rfl⟩ := Int.eq_ofNat_of_zero_le (show 0 ≤ x by omega)
    have hN : N ≤ 4001 := by omega
    clear hx hb3 hr3 hg4
    have C := hide (spec_l9Many [120] N w4 (by simp; omega) (by omega))
    go_wp2_with fail
    refine (unhide C).mono ?_; rintro e w5 ⟨rfl, rfl⟩
    clear C
    go_wp2_with fail
    refine (rd_which _ g _ w4 hr4 (by omega)).mono ?_; rintro e w7 ⟨o, rfl, ho, p', _, hr7, hg7⟩
    go_wp2_with fail
    go_ret2
    exact ⟨o, Sx.rep N [120], rfl, ho, by rw [Sx.rep_length]; simp; omega, draw_next (Nat.le_refl _) hb4 hr4 hg7⟩
  · have h00 : (v == 0) = false := by simpa using h0
    clear v0 h0
    go_wp2_with fail
    refine (rd_which _ g _ _ hr3 (by omega)).mono ?_; rintro e w7 ⟨o, rfl, ho, p', _, hr7, hg7⟩
    go_wp2_with fail
    go_ret2
    exact ⟨o, l, rfl, ho, by omega, draw_next (Nat.le_refl _) hb3 hr3 hg7⟩

set_option maxRecDepth 100000 in
set_option maxHeartbeats 1000000 in
theorem draw_TurnBytes (A : Option Addr) (n c : Nat) (w : World) (h : Src w w.heap.size A n) (hn : n ≤ 1048576) (hc : n ≤ c) (hcm : c ≤ maxLen) :
    Calls Try.prog 90 #[.slice A n c] w (DrawS 4001 w) := by
  have HO := hide (draw_UnpackBits A n c w h hn hc hcm)
  clear h
  go_enter Try.func90, Try.ntmps90
  go_wp2_with fail
  refine (unhide HO).mono ?_; rintro e w1 ⟨a, l, rfl, _, hl, hb1⟩
  go_wp2_with fail
  go_ret
  exact ⟨l, rfl, hl, hb1⟩
end Go.Proofs.Ytkecappciglonaa

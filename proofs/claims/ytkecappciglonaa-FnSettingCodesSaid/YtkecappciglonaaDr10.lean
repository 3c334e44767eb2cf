/- The walks of the drawn settings and data as a law calls them. Conditions: a slice of at most 1048576 bytes. -/
import Derived.Test.YtkecappciglonaaDr9
namespace Go.Proofs.Ytkecappciglonaa
open Go.RowKit

/-- A draw of a setting. -/
def DrawSet (w : World) (e : Ending) (w' : World) : Prop := ∃ o l m : Int, e = .returned (sv o l m) ∧ FitsS o l m ∧ Below w.heap.size w w'
/-- A draw of a setting and a string. -/
def DrawSetS (k : Nat) (w : World) (e : Ending) (w' : World) : Prop := ∃ (o l m : Int) (s : ByteArray), e = .returned (.tuple #[sv o l m, .string s]) ∧ FitsS o l m ∧ s.size ≤ k ∧ Below w.heap.size w w'
theorem below_set3 {w W : World} {B b : Nat} (h : Below B w W) (hB : B ≤ b) (x y z : Value) : Below B w (((W.setCell ⟨b, 0, none⟩ x).setCell ⟨b, 1, none⟩ y).setCell ⟨b, 2, none⟩ z) :=
  ((h.setCell (p := ⟨b, 0, none⟩) hB x).setCell (p := ⟨b, 1, none⟩) hB y).setCell (p := ⟨b, 2, none⟩) hB z

set_option maxRecDepth 100000 in
set_option maxHeartbeats 1000000 in
theorem draw_SettingValid (A : Option Addr) (n c : Nat) (w : World) (h : Src w w.heap.size A n) (hn : n ≤ 1048576) (hc : n ≤ c) (hcm : c ≤ maxLen) :
    Calls Try.prog 88 #[.slice A n c] w (DrawSet w) := by
  unfold maxLen at hcm
  have HO := hide (rd_open A n c _ (h.next ((Below.refl _ _).alloc (Nat.le_refl _) (.cells #[.int .i64 0, .int .i64 0, .int .i64 0] 42))) hn hc hcm)
  have K0 := hide (Blk.new w 42 #[.int .i64 0, .int .i64 0, .int .i64 0])
  have hz := box_size w (.cells #[.int .i64 0, .int .i64 0, .int .i64 0] 42)
  clear h
  go_enter Try.func88, Try.ntmps88
  go_wp2_with fail
  refine (unhide HO).mono ?_; rintro e w1 ⟨g, rfl, hr1, hb1⟩
  have hgg := hr1.1
  have hne : w.heap.size ≠ g := by omega
  have kb1 := K0.out.below hb1 (by omega)
  clear HO K0
  go_wp2_with fail
  refine (rd_some _ g 0 w1 hr1 (by omega)).mono ?_; rintro e w2 ⟨o, l, m, rfl, hok, p2, hp2, hr2, hg2⟩
  have hb2 := draw_next (Nat.le_refl _) hb1 hr1 hg2
  have kb2 := blkG kb1 hg2 hne
  have hbd := Sx.setOK_bd hok
  have hft := fits_set hok
  clear hb1 hr1 kb1 hg2 hok
  go_wp2_with fail
  refine (rd_bad _ g p2 o l m w2 hr2 (by omega) hft (by omega)).mono ?_; rintro e w3 ⟨o, l, m, rfl, hf3, p3, hp3, hr3, hg3⟩
  have hb3 := below_box ((draw_next (Nat.le_refl _) hb2 hr2 hg3).mono hz)
  have kb3 := blkG kb2 hg3 hne
  clear hb2 hr2 kb2 hg3 hft hbd
  have c0 : w3.cell? ⟨w.heap.size, 0, none⟩ = some (.int .i64 0) := kb3.cell 0
  have c1 : w3.cell? ⟨w.heap.size, 1, none⟩ = some (.int .i64 0) := kb3.cell 1
  have c2 : w3.cell? ⟨w.heap.size, 2, none⟩ = some (.int .i64 0) := kb3.cell 2
  have f0 := kb3.frozen 0
  have f1 := kb3.frozen 1
  have f2 := kb3.frozen 2
  go_wp2_with fail
  have q := blk3_set kb3 (.int .i64 o) (.int .i64 l) (.int .i64 m)
  have q0 := q.cell 0
  have q1 := q.cell 1
  have q2 := q.cell 2
  exact bodyPost_ret (v := sv o l m) (by simp [results, Try.results88, go_sem, q0, q1, q2]) rfl ⟨o, l, m, rfl, hf3, below_set3 hb3 (Nat.le_refl _) _ _ _⟩

set_option maxRecDepth 100000 in
set_option maxHeartbeats 1000000 in
theorem draw_ClearCode (A : Option Addr) (n c : Nat) (w : World) (h : Src w w.heap.size A n) (hn : n ≤ 1048576) (hc : n ≤ c) (hcm : c ≤ maxLen) :
    Calls Try.prog 38 #[.slice A n c] w (DrawSet w) := by
  have HO := hide (draw_SettingValid A n c _ (h.next ((Below.refl _ _).alloc (Nat.le_refl _) (.cells #[.int .i64 0, .int .i64 0, .int .i64 0] 42))) hn hc hcm)
  have K0 := hide (Blk.new w 42 #[.int .i64 0, .int .i64 0, .int .i64 0])
  have hz := box_size w (.cells #[.int .i64 0, .int .i64 0, .int .i64 0] 42)
  clear h
  go_enter Try.func38, Try.ntmps38
  go_wp2_with fail
  refine (unhide HO).mono ?_; rintro e w1 ⟨o, l, m, rfl, hf, hb1⟩
  have kb1 := K0.out.below hb1 (by omega)
  have hb := below_box (hb1.mono hz)
  clear HO K0 hb1
  have c0 : w1.cell? ⟨w.heap.size, 0, none⟩ = some (.int .i64 0) := kb1.cell 0
  have c1 : w1.cell? ⟨w.heap.size, 1, none⟩ = some (.int .i64 0) := kb1.cell 1
  have c2 : w1.cell? ⟨w.heap.size, 2, none⟩ = some (.int .i64 0) := kb1.cell 2
  have f0 := kb1.frozen 0
  have f1 := kb1.frozen 1
  have f2 := kb1.frozen 2
  go_wp2_with fail
  have q := blk3_set kb1 (.int .i64 o) (.int .i64 l) (.int .i64 m)
  have q0 := q.cell 0
  have q1 := q.cell 1
  have q2 := q.cell 2
  exact bodyPost_ret (v := sv o l m) (by simp [results, Try.results38, go_sem, q0, q1, q2]) rfl ⟨o, l, m, rfl, hf, below_set3 hb (Nat.le_refl _) _ _ _⟩

set_option maxRecDepth 100000 in
set_option maxHeartbeats 2000000 in
theorem draw_DataFits (A : Option Addr) (n c : Nat) (w : World) (h : Src w w.heap.size A n) (hn : n ≤ 1048576) (hc : n ≤ c) (hcm : c ≤ maxLen) :
    Calls Try.prog 33 #[.slice A n c] w (DrawSetS 2001 w) := by
  unfold maxLen at hcm
  have HO := hide (rd_open A n c _ (h.next ((Below.refl _ _).alloc (Nat.le_refl _) (.cells #[.int .i64 0, .int .i64 0, .int .i64 0] 42))) hn hc hcm)
  have K0 := hide (Blk.new w 42 #[.int .i64 0, .int .i64 0, .int .i64 0])
  have hz := box_size w (.cells #[.int .i64 0, .int .i64 0, .int .i64 0] 42)
  clear h
  go_enter Try.func33, Try.ntmps33
  go_wp2_with fail
  refine (unhide HO).mono ?_; rintro e w1 ⟨g, rfl, hr1, hb1⟩
  have hgg := hr1.1
  have hne : w.heap.size ≠ g := by omega
  have kb1 := K0.out.below hb1 (by omega)
  clear HO K0
  go_wp2_with fail
  refine (rd_some _ g 0 w1 hr1 (by omega)).mono ?_; rintro e w2 ⟨o, l, m, rfl, hok, p2, hp2, hr2, hg2⟩
  have hb2 := draw_next (Nat.le_refl _) hb1 hr1 hg2
  have kb2 := blkG kb1 hg2 hne
  have hbd := Sx.setOK_bd hok
  have hft := fits_set hok
  have hne2 : w2.heap.size ≠ g := by have := hr2.lt; omega
  have hg2' := hr2.lt
  clear hb1 hr1 kb1 hg2 hok
  have hb3 := hb2.alloc (by have := hb2.size; exact this) (.cells #[.int .i64 o, .int .i64 l, .int .i64 m] 42)
  have hr3 := hr2.below ((Below.refl _ _).alloc (Nat.le_refl _) (.cells #[.int .i64 o, .int .i64 l, .int .i64 m] 42))
  have kb3 := kb2.alloc (.cells #[.int .i64 o, .int .i64 l, .int .i64 m] 42)
  have kc3 := Blk.new w2 42 #[.int .i64 o, .int .i64 l, .int .i64 m]
  have C := rd_data _ g p2 30 o l m _ hr3 (by omega) (by omega) (by omega) (by omega)
  rw [show ((30 : Nat) : Int) = 30 from rfl] at C
  have C := hide C
  clear hr2 kb2 hb2
  go_wp2_with fail
  refine (unhide C).mono ?_; rintro e w4 ⟨dl, rfl, hdl, p4, hp4, hr4, hg4⟩
  have hb4 := draw_next (Nat.le_refl _) hb3 hr3 hg4
  have kb4 := blkG kb3 hg4 hne
  have kc4 := blkG kc3 hg4 hne2
  clear C hb3 hr3 kb3 kc3 hg4
  have hm : (str dl).size ≤ 2000 := by rw [str_size]; omega
  go_wp2_with fail
  refine (rd_wild _ g p4 (str dl) w4 hr4 (by omega) hm).mono ?_; rintro e w5 ⟨dl2, rfl, hdl2, p5, hp5, hr5, hg5⟩
  have hb5 := draw_next (Nat.le_refl _) hb4 hr4 hg5
  have kb5 := blkG kb4 hg5 hne
  have kc5 := blkG kc4 hg5 hne2
  clear hb4 hr4 kb4 kc4 hg5 hm
  have hm : (str dl2).size ≤ 2001 := by rw [str_size]; exact hdl2
  generalize str dl2 = dat at hm
  have c0 : w5.cell? ⟨w2.heap.size, 0, none⟩ = some (.int .i64 o) := kc5.cell 0
  have c1 : w5.cell? ⟨w2.heap.size, 1, none⟩ = some (.int .i64 l) := kc5.cell 1
  have c2 : w5.cell? ⟨w2.heap.size, 2, none⟩ = some (.int .i64 m) := kc5.cell 2
  go_wp2_with fail
  refine (rd_bad _ g p5 o l m w5 hr5 (by omega) hft (by omega)).mono ?_; rintro e w6 ⟨o, l, m, rfl, hf6, p6, hp6, hr6, hg6⟩
  have hb6 := below_box ((draw_next (Nat.le_refl _) hb5 hr5 hg6).mono hz)
  have kb6 := blkG kb5 hg6 hne
  clear hb5 hr5 kb5 kc5 hg6 c0 c1 c2 hft hbd
  have c0 : w6.cell? ⟨w.heap.size, 0, none⟩ = some (.int .i64 0) := kb6.cell 0
  have c1 : w6.cell? ⟨w.heap.size, 1, none⟩ = some (.int .i64 0) := kb6.cell 1
  have c2 : w6.cell? ⟨w.heap.size, 2, none⟩ = some (.int .i64 0) := kb6.cell 2
  have f0 := kb6.frozen 0
  have f1 := kb6.frozen 1
  have f2 := kb6.frozen 2
  go_wp2_with fail
  have q := blk3_set kb6 (.int .i64 o) (.int .i64 l) (.int .i64 m)
  have q0 := q.cell 0
  have q1 := q.cell 1
  have q2 := q.cell 2
  exact bodyPost_ret (v := .tuple #[sv o l m, .string dat]) (by simp [results, Try.results33, go_sem, q0, q1, q2]) rfl ⟨o, l, m, dat, rfl, hf6, hm, below_set3 hb6 (Nat.le_refl _) _ _ _⟩
end Go.Proofs.Ytkecappciglonaa

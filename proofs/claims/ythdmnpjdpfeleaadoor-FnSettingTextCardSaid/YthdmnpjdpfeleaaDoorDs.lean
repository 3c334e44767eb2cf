/- The walk of a drawn setting as a law calls it. Conditions: a slice of at most 1048576 bytes. -/
import Derived.Test.YthdmnpjdpfeleaaDoorDr8
import Derived.Test.YthdmnpjdpfeleaaDoorKn
namespace Go.Proofs.YthdmnpjdpfeleaaDoor
open Go.RowKit

/-- A draw of a setting. -/
def DrawSet (w : World) (e : Ending) (w' : World) : Prop := ∃ o l m : Int, e = .returned (sv o l m) ∧ FitsS o l m ∧ Below w.heap.size w w'
/-- A draw of a setting and a string. -/
def DrawSetS (k : Nat) (w : World) (e : Ending) (w' : World) : Prop := ∃ (o l m : Int) (s : ByteArray), e = .returned (.tuple #[sv o l m, .string s]) ∧ FitsS o l m ∧ s.size ≤ k ∧ Below w.heap.size w w'
theorem below_set3 {w W : World} {B b : Nat} (h : Below B w W) (hB : B ≤ b) (x y z : Value) : Below B w (((W.setCell ⟨b, 0, none⟩ x).setCell ⟨b, 1, none⟩ y).setCell ⟨b, 2, none⟩ z) :=
  ((h.setCell (p := ⟨b, 0, none⟩) hB x).setCell (p := ⟨b, 1, none⟩) hB y).setCell (p := ⟨b, 2, none⟩) hB z

set_option maxRecDepth 100000 in
set_option maxHeartbeats 1000000 in
theorem draw_SettingValid (A : Option Addr) (n c : Nat) (w : World) (h : Src w w.heap.size A n) (hn : n ≤ 1048576) (hc : n ≤ c) (hcm : c ≤ maxLen) :
    Calls Tryd.prog 20 #[.slice A n c] w (DrawSet w) := by
  unfold maxLen at hcm
  have HO := hide (rd_open A n c _ (h.next ((Below.refl _ _).alloc (Nat.le_refl _) (.cells #[.int .i64 0, .int .i64 0, .int .i64 0] 23))) hn hc hcm)
  have K0 := hide (Blk.new w 23 #[.int .i64 0, .int .i64 0, .int .i64 0])
  have hz := box_size w (.cells #[.int .i64 0, .int .i64 0, .int .i64 0] 23)
  clear h
  go_enter Tryd.func20, Tryd.ntmps20
  go_wp2_with fail
  refine (unhide HO).mono ?_; rintro e w1 ⟨g, rfl, hr1, hb1⟩
  have hgg := hr1.1
  have hne : w.heap.size ≠ g := by omega
  have kb1 := K0.out.below hb1 (by omega)
  clear HO K0
  go_wp2_with fail
  refine (rd_some _ g 0 w1 hr1 (by omega)).mono ?_; rintro e w2 ⟨o, l, m, rfl, hok, p2, hp2, hr2, hg2⟩
  have hb2 := draw_next (Nat.le_refl _) hb1 hr1 hg2
  have kb2 := blkG kb1 hg2 hne
  have hbd := Sx.setOK_bd hok
  have hft := fits_set hok
  clear hb1 hr1 kb1 hg2 hok
  go_wp2_with fail
  refine (rd_bad _ g p2 o l m w2 hr2 (by omega) hft (by omega)).mono ?_; rintro e w3 ⟨o, l, m, rfl, hf3, p3, hp3, hr3, hg3⟩
  have hb3 := below_box ((draw_next (Nat.le_refl _) hb2 hr2 hg3).mono hz)
  have kb3 := blkG kb2 hg3 hne
  clear hb2 hr2 kb2 hg3 hft hbd
  have c0 : w3.cell? ⟨w.heap.size, 0, none⟩ = some (.int .i64 0) := kb3.cell 0
  have c1 : w3.cell? ⟨w.heap.size, 1, none⟩ = some (.int .i64 0) := kb3.cell 1
  have c2 : w3.cell? ⟨w.heap.size, 2, none⟩ = some (.int .i64 0) := kb3.cell 2
  have f0 := kb3.frozen 0
  have f1 := kb3.frozen 1
  have f2 := kb3.frozen 2
  go_wp2_with fail
  have q := blk3_set kb3 (.int .i64 o) (.int .i64 l) (.int .i64 m)
  have q0 := q.cell 0
  have q1 := q.cell 1
  have q2 := q.cell 2
  exact bodyPost_ret (v := sv o l m) (by simp [results, Tryd.results20, go_sem, q0, q1, q2]) rfl ⟨o, l, m, rfl, hf3, below_set3 hb3 (Nat.le_refl _) _ _ _⟩

end Go.Proofs.YthdmnpjdpfeleaaDoor

/- The walks of what is known after a code, of the reference. Conditions: the pairs' cells lie below the call's own memory. -/
import Derived.Test.YtegfcpdkehgdpaaAf5
import Derived.Test.YtegfcpdkehgdpaaOv
namespace Go.Proofs.Ytegfcpdkehgdpaa
open Go.RowKit

theorem OwnP.mono {w : World} {base base' : Nat} {A : Option Addr} {ps : List (Int × Int)} (h : OwnP w base A ps) (hb : base' ≤ base) : OwnP w base' A ps := by
  rcases h with h | ⟨g', cs', hA, hb', h⟩
  · exact .inl h
  · exact .inr ⟨g', cs', hA, by omega, h⟩
theorem OwnP.only {w w' : World} {base g : Nat} {A : Option Addr} {ps : List (Int × Int)} {t : TypeId} {cs : Array Value} (h : OwnP w base A ps) (hg : w.grownBy w' (some g)) (hB : Blk w g t cs) (hne : t ≠ 63) : OwnP w' base A ps := by
  rcases h with h | ⟨g', cs', hA, hb, hB', hz, hc⟩
  · exact .inl h
  · exact .inr ⟨g', cs', hA, hb, hB'.grown hg (fun e => by injection e with e; subst e; exact Blk.ne_ hB hB' hne rfl), hz, hc⟩

set_option maxRecDepth 100000 in
set_option maxHeartbeats 2000000 in
theorem spec_l2Step (o l m : Int) (A : Option Addr) (c : Nat) (b t x : Int) (ps : List (Int × Int)) (w : World) (hr : PR w w.heap.size A ps) (hcap : ps.length ≤ c) (hk : Sx.kOK o l m ps b t = true) (hg : Sx.goB l m ps.length t x = true) :
    Calls Try.prog 59 #[kv o l m A ps.length c b t, .int .i64 x] w fun e w' => ∃ A' c', e = .returned (kv o l m A' (Sx.stepP l m ps b t x).length c' b (Sx.advT l x)) ∧ OwnP w' w.heap.size A' (Sx.stepP l m ps b t x) ∧ (Sx.stepP l m ps b t x).length ≤ c' ∧ Below w.heap.size w w' := by
  obtain ⟨hl0, hl1, hm0, hm1, hn1, ht1⟩ := Sx.kOK_nums hk
  obtain ⟨hb0, hb1⟩ := (Sx.kOK_of hk).2.2.1
  have B0 : Below w.heap.size w ((w.alloc (.cells #[.int .i64 o, .int .i64 l, .int .i64 m, .slice A ps.length c, .int .i64 b, .int .i64 t] 31)).alloc (.cells #[.int .i64 0, .int .i64 0, .int .i64 0, .slice none 0 0, .int .i64 0, .int .i64 0] 31)) := ((Below.refl _ _).alloc (Nat.le_refl _) _).alloc (by simp) _
  have K0 := (Blk.new w 31 #[.int .i64 o, .int .i64 l, .int .i64 m, .slice A ps.length c, .int .i64 b, .int .i64 t]).alloc (.cells #[.int .i64 0, .int .i64 0, .int .i64 0, .slice none 0 0, .int .i64 0, .int .i64 0] 31)
  have R0 := blk_new2 w (.cells #[.int .i64 o, .int .i64 l, .int .i64 m, .slice A ps.length c, .int .i64 b, .int .i64 t] 31) 31 #[.int .i64 0, .int .i64 0, .int .i64 0, .slice none 0 0, .int .i64 0, .int .i64 0]
  have a0 : ((w.alloc (.cells #[.int .i64 o, .int .i64 l, .int .i64 m, .slice A ps.length c, .int .i64 b, .int .i64 t] 31)).alloc (.cells #[.int .i64 0, .int .i64 0, .int .i64 0, .slice none 0 0, .int .i64 0, .int .i64 0] 31)).cell? ⟨w.heap.size, 0, none⟩ = some (.int .i64 o) := K0.cell 0
  have a1 : ((w.alloc (.cells #[.int .i64 o, .int .i64 l, .int .i64 m, .slice A ps.length c, .int .i64 b, .int .i64 t] 31)).alloc (.cells #[.int .i64 0, .int .i64 0, .int .i64 0, .slice none 0 0, .int .i64 0, .int .i64 0] 31)).cell? ⟨w.heap.size, 1, none⟩ = some (.int .i64 l) := K0.cell 1
  have a2 : ((w.alloc (.cells #[.int .i64 o, .int .i64 l, .int .i64 m, .slice A ps.length c, .int .i64 b, .int .i64 t] 31)).alloc (.cells #[.int .i64 0, .int .i64 0, .int .i64 0, .slice none 0 0, .int .i64 0, .int .i64 0] 31)).cell? ⟨w.heap.size, 2, none⟩ = some (.int .i64 m) := K0.cell 2
  have a3 : ((w.alloc (.cells #[.int .i64 o, .int .i64 l, .int .i64 m, .slice A ps.length c, .int .i64 b, .int .i64 t] 31)).alloc (.cells #[.int .i64 0, .int .i64 0, .int .i64 0, .slice none 0 0, .int .i64 0, .int .i64 0] 31)).cell? ⟨w.heap.size, 3, none⟩ = some (.slice A ps.length c) := K0.cell 3
  have a4 : ((w.alloc (.cells #[.int .i64 o, .int .i64 l, .int .i64 m, .slice A ps.length c, .int .i64 b, .int .i64 t] 31)).alloc (.cells #[.int .i64 0, .int .i64 0, .int .i64 0, .slice none 0 0, .int .i64 0, .int .i64 0] 31)).cell? ⟨w.heap.size, 4, none⟩ = some (.int .i64 b) := K0.cell 4
  have a5 : ((w.alloc (.cells #[.int .i64 o, .int .i64 l, .int .i64 m, .slice A ps.length c, .int .i64 b, .int .i64 t] 31)).alloc (.cells #[.int .i64 0, .int .i64 0, .int .i64 0, .slice none 0 0, .int .i64 0, .int .i64 0] 31)).cell? ⟨w.heap.size, 5, none⟩ = some (.int .i64 t) := K0.cell 5
  have CC := hide (fun wx => spec_l1Clear o l m wx (by omega) (by omega))
  rcases Sx.go_of hg with hx | ⟨hx, hc⟩
  · have CL := fun w2 (hb : Below w.heap.size w w2) => spec_l2Cleared o l m A c b t ps w2 (hr.keep hb.size hb) hn1 hb0 hb1 hcap
    have HS : Sx.stepP l m ps b t x = ps.take b.toNat := (Sx.adv_clear hx).1
    rw [← HS] at CL
    have CL := hide CL
    clear HS
    have HT : Hid (Sx.advT l x = -1) := hide (if_pos hx)
    have ec : (x == Sx.two l) = true := by rw [beq_iff_eq]; exact hx
    clear hx hg hk
    go_enter Try.func59, Try.ntmps59
    go_wp2_with fail
    refine ((unhide CC) _).mono ?_; rintro e w1 ⟨rfl, hb1⟩
    have B1 := below_next (Nat.le_refl _) B0 hb1
    have K1 := K0.below hb1 K0.lt
    have R1 := R0.below hb1 R0.lt
    clear B0 K0 R0 hb1 a0 a1 a2 a3 a4 a5
    have a0 : w1.cell? ⟨w.heap.size, 0, none⟩ = some (.int .i64 o) := K1.cell 0
    have a1 : w1.cell? ⟨w.heap.size, 1, none⟩ = some (.int .i64 l) := K1.cell 1
    have a2 : w1.cell? ⟨w.heap.size, 2, none⟩ = some (.int .i64 m) := K1.cell 2
    have a3 : w1.cell? ⟨w.heap.size, 3, none⟩ = some (.slice A ps.length c) := K1.cell 3
    have a4 : w1.cell? ⟨w.heap.size, 4, none⟩ = some (.int .i64 b) := K1.cell 4
    have a5 : w1.cell? ⟨w.heap.size, 5, none⟩ = some (.int .i64 t) := K1.cell 5
    go_wp2_with fail
    refine ((unhide CL) _ B1).mono ?_; rintro e w2 ⟨A2, c2, rfl, O2, hc2, hb2⟩
    have s1 := B1.size
    have B2 := below_next (Nat.le_refl _) B1 hb2
    have K2 := K1.below hb2 K1.lt
    have R2 := R1.below hb2 R1.lt
    clear B1 K1 R1 hb2 a0 a1 a2 a3 a4 a5
    have a0 : w2.cell? ⟨w.heap.size, 0, none⟩ = some (.int .i64 o) := K2.cell 0
    have a1 : w2.cell? ⟨w.heap.size, 1, none⟩ = some (.int .i64 l) := K2.cell 1
    have a2 : w2.cell? ⟨w.heap.size, 2, none⟩ = some (.int .i64 m) := K2.cell 2
    have a3 : w2.cell? ⟨w.heap.size, 3, none⟩ = some (.slice A ps.length c) := K2.cell 3
    have a4 : w2.cell? ⟨w.heap.size, 4, none⟩ = some (.int .i64 b) := K2.cell 4
    have a5 : w2.cell? ⟨w.heap.size, 5, none⟩ = some (.int .i64 t) := K2.cell 5
    have r0 : w2.cell? ⟨(w.heap.size + 1), 0, none⟩ = some (.int .i64 0) := R2.cell 0
    have r1 : w2.cell? ⟨(w.heap.size + 1), 1, none⟩ = some (.int .i64 0) := R2.cell 1
    have r2 : w2.cell? ⟨(w.heap.size + 1), 2, none⟩ = some (.int .i64 0) := R2.cell 2
    have r3 : w2.cell? ⟨(w.heap.size + 1), 3, none⟩ = some (.slice none 0 0) := R2.cell 3
    have r4 : w2.cell? ⟨(w.heap.size + 1), 4, none⟩ = some (.int .i64 0) := R2.cell 4
    have r5 : w2.cell? ⟨(w.heap.size + 1), 5, none⟩ = some (.int .i64 0) := R2.cell 5
    have fr0 := R2.frozen 0
    have fr1 := R2.frozen 1
    have fr2 := R2.frozen 2
    have fr3 := R2.frozen 3
    have fr4 := R2.frozen 4
    have fr5 := R2.frozen 5
    go_wp2_with fail
    have q := blk6_set R2 (.int .i64 o) (.int .i64 l) (.int .i64 m) (.slice A2 (Sx.stepP l m ps b t x).length c2) (.int .i64 b) (.int .i64 (-1))
    have BV := below_set6 (g := w.heap.size + 1) B2 (by omega) (.int .i64 o) (.int .i64 l) (.int .i64 m) (.slice A2 (Sx.stepP l m ps b t x).length c2) (.int .i64 b) (.int .i64 (-1))
    have OV := O2.only (only6 w2 (w.heap.size + 1) (.int .i64 o) (.int .i64 l) (.int .i64 m) (.slice A2 (Sx.stepP l m ps b t x).length c2) (.int .i64 b) (.int .i64 (-1))) R2 (by decide)
    have q0 := q.cell 0
    have q1 := q.cell 1
    have q2 := q.cell 2
    have q3 := q.cell 3
    have q4 := q.cell 4
    have q5 := q.cell 5
    exact bodyPost_ret (v := kv o l m A2 (Sx.stepP l m ps b t x).length c2 b (-1)) (by simp [results, Try.results59, go_sem, q0, q1, q2, q3, q4, q5]) rfl ⟨A2, c2, by rw [HT.out], OwnP.mono OV s1, hc2, BV⟩

  · have CL := hide (fun w2 (hb : Below w.heap.size w w2) => spec_l2After o l m A c b t x ps w2 (hr.keep hb.size hb) hk hc)
    have HT : Hid (Sx.advT l x = x) := hide (if_neg hx)
    have ec : (x == Sx.two l) = false := by rw [beq_eq_false_iff_ne]; exact hx
    clear hx hg hk hc
    go_enter Try.func59, Try.ntmps59
    go_wp2_with fail
    refine ((unhide CC) _).mono ?_; rintro e w1 ⟨rfl, hb1⟩
    have B1 := below_next (Nat.le_refl _) B0 hb1
    have K1 := K0.below hb1 K0.lt
    have R1 := R0.below hb1 R0.lt
    clear B0 K0 R0 hb1 a0 a1 a2 a3 a4 a5
    have a0 : w1.cell? ⟨w.heap.size, 0, none⟩ = some (.int .i64 o) := K1.cell 0
    have a1 : w1.cell? ⟨w.heap.size, 1, none⟩ = some (.int .i64 l) := K1.cell 1
    have a2 : w1.cell? ⟨w.heap.size, 2, none⟩ = some (.int .i64 m) := K1.cell 2
    have a3 : w1.cell? ⟨w.heap.size, 3, none⟩ = some (.slice A ps.length c) := K1.cell 3
    have a4 : w1.cell? ⟨w.heap.size, 4, none⟩ = some (.int .i64 b) := K1.cell 4
    have a5 : w1.cell? ⟨w.heap.size, 5, none⟩ = some (.int .i64 t) := K1.cell 5
    go_wp2_with fail
    refine ((unhide CL) _ B1).mono ?_; rintro e w2 ⟨A2, c2, rfl, O2, hc2, hb2⟩
    have s1 := B1.size
    have B2 := below_next (Nat.le_refl _) B1 hb2
    have K2 := K1.below hb2 K1.lt
    have R2 := R1.below hb2 R1.lt
    clear B1 K1 R1 hb2 a0 a1 a2 a3 a4 a5
    have a0 : w2.cell? ⟨w.heap.size, 0, none⟩ = some (.int .i64 o) := K2.cell 0
    have a1 : w2.cell? ⟨w.heap.size, 1, none⟩ = some (.int .i64 l) := K2.cell 1
    have a2 : w2.cell? ⟨w.heap.size, 2, none⟩ = some (.int .i64 m) := K2.cell 2
    have a3 : w2.cell? ⟨w.heap.size, 3, none⟩ = some (.slice A ps.length c) := K2.cell 3
    have a4 : w2.cell? ⟨w.heap.size, 4, none⟩ = some (.int .i64 b) := K2.cell 4
    have a5 : w2.cell? ⟨w.heap.size, 5, none⟩ = some (.int .i64 t) := K2.cell 5
    have r0 : w2.cell? ⟨(w.heap.size + 1), 0, none⟩ = some (.int .i64 0) := R2.cell 0
    have r1 : w2.cell? ⟨(w.heap.size + 1), 1, none⟩ = some (.int .i64 0) := R2.cell 1
    have r2 : w2.cell? ⟨(w.heap.size + 1), 2, none⟩ = some (.int .i64 0) := R2.cell 2
    have r3 : w2.cell? ⟨(w.heap.size + 1), 3, none⟩ = some (.slice none 0 0) := R2.cell 3
    have r4 : w2.cell? ⟨(w.heap.size + 1), 4, none⟩ = some (.int .i64 0) := R2.cell 4
    have r5 : w2.cell? ⟨(w.heap.size + 1), 5, none⟩ = some (.int .i64 0) := R2.cell 5
    have fr0 := R2.frozen 0
    have fr1 := R2.frozen 1
    have fr2 := R2.frozen 2
    have fr3 := R2.frozen 3
    have fr4 := R2.frozen 4
    have fr5 := R2.frozen 5
    go_wp2_with fail
    have q := blk6_set R2 (.int .i64 o) (.int .i64 l) (.int .i64 m) (.slice A2 (Sx.stepP l m ps b t x).length c2) (.int .i64 b) (.int .i64 x)
    have BV := below_set6 (g := w.heap.size + 1) B2 (by omega) (.int .i64 o) (.int .i64 l) (.int .i64 m) (.slice A2 (Sx.stepP l m ps b t x).length c2) (.int .i64 b) (.int .i64 x)
    have OV := O2.only (only6 w2 (w.heap.size + 1) (.int .i64 o) (.int .i64 l) (.int .i64 m) (.slice A2 (Sx.stepP l m ps b t x).length c2) (.int .i64 b) (.int .i64 x)) R2 (by decide)
    have q0 := q.cell 0
    have q1 := q.cell 1
    have q2 := q.cell 2
    have q3 := q.cell 3
    have q4 := q.cell 4
    have q5 := q.cell 5
    exact bodyPost_ret (v := kv o l m A2 (Sx.stepP l m ps b t x).length c2 b x) (by simp [results, Try.results59, go_sem, q0, q1, q2, q3, q4, q5]) rfl ⟨A2, c2, by rw [HT.out], OwnP.mono OV s1, hc2, BV⟩

end Go.Proofs.Ytegfcpdkehgdpaa

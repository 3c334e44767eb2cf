/- The walks of what is known after a code, of the reference. Conditions: the pairs' cells lie below the call's own memory. -/
import Derived.Test.YtegfcpdkehgdpaaAf5
import Derived.Test.YtegfcpdkehgdpaaOv
namespace Go.Proofs.Ytegfcpdkehgdpaa
open Go.RowKit

theorem OwnP.mono {w : World} {base base' : Nat} {A : Option Addr} {ps : List (Int × Int)} (h : OwnP w base A ps) (hb : base' ≤ base) : OwnP w base' A ps := by
  rcases h with h | ⟨g', cs', hA, hb', h⟩
  · exact .inl h
  · exact .inr ⟨g', cs', hA, by omega, h⟩
theorem OwnP.only {w w' : World} {base g : Nat} {A : Option Addr} {ps : List (Int × Int)} {t : TypeId} {cs : Array Value} (h : OwnP w base A ps) (hg : w.grownBy w' (some g)) (hB : Blk w g t cs) (hne : t ≠ 63) : OwnP w' base A ps := by
  rcases h with h | ⟨g', cs', hA, hb, hB', hz, hc⟩
  · exact .inl h
  · exact .inr ⟨g', cs', hA, hb, hB'.grown hg (fun e => by injection e with e; subst e; exact Blk.ne_ hB hB' hne rfl), hz, hc⟩

set_option maxRecDepth 100000 in
set_option maxHeartbeats 2000000 in
theorem spec_l2Step (o l m : Int) (A : Option Addr) (c : Nat) (b t x : Int) (ps : List (Int × Int)) (w : World) (hr : PR w w.heap.size A ps) (hcap : ps.length ≤ c) (hk : Sx.kOK o l m ps b t = true) (hg : Sx.goB l m ps.length t x = true) :
    Calls Try.prog 59 #[kv o l m A ps.length c b t, .int .i64 x] w fun e w' => ∃ A' c', e = .returned (kv o l m A' (Sx.stepP l m ps b t x).length c' b (Sx.advT l x)) ∧ OwnP w' w.heap.size A' (Sx.stepP l m ps b t x) ∧ (Sx.stepP l m ps b t x).length ≤ c' ∧ Below w.heap.size w w' := by
  obtain ⟨hl0, hl1, hm0, hm1, hn1, ht1⟩ := Sx.kOK_nums hk
  obtain ⟨hb0, hb1⟩ := (Sx.kOK_of hk).2.2.1
  have B0 : Below w.heap.size w ((w.alloc (.cells #[.int .i64 o, .int .i64 l, .int .i64 m, .slice A ps.length c, .int .i64 b, .int .i64 t] 31)).alloc (.cells #[.int .i64 0, .int .i64 0, .int .i64 0, .slice none 0 0, .int .i64 0, .int .i64 0] 31)) := ((Below.refl _ _).alloc (Nat.le_refl _) _).alloc (by simp) _
  have K0 := (Blk.new w 31 #[.int .i64 o, .int .i64 l, .int .i64 m, .slice A ps.length c, .int .i64 b, .int .i64 t]).alloc (.cells #[.int .i64 0, .int .i64 0, .int .i64 0, .slice none 0 0, .int .i64 0, .int .i64 0] 31)
  have R0 := blk_new2 w (.cells #[.int .i64 o, .int .i64 l, .int .i64 m, .slice A ps.length c, .int .i64 b, .int .i64 t] 31) 31 #[.int .i64 0, .int .i64 0, .int .i64 0, .slice none 0 0, .int .i64 0, .int .i64 0]
  have a0 : ((w.alloc (.cells #[.int .i64 o, .int .i64 l, .int .i64 m, .slice A ps.length c, .int .i64 b, .int .i64 t] 31)).alloc (.cells #[.int .i64 0, .int .i64 0, .int .i64 0, .slice none 0 0, .int .i64 0, .int .i64 0] 31)).cell? ⟨w.heap.size, 0, none⟩ = some (.int .i64 o) := K0.cell 0
  have a1 : ((w.alloc (.cells #[.int .i64 o, .int .i64 l, .int .i64 m, .slice A ps.length c, .int .i64 b, .int .i64 t] 31)).alloc (.cells #[.int .i64 0, .int .i64 0, .int .i64 0, .slice none 0 0, .int .i64 0, .int .i64 0] 31)).cell? ⟨w.heap.size, 1, none⟩ = some (.int .i64 l) := K0.cell 1
  have a2 : ((w.alloc (.cells #[.int .i64 o, .int .i64 l, .int .i64 m, .slice A ps.length c, .int .i64 b, .int .i64 t] 31)).alloc (.cells #[.int .i64 0, .int .i64 0, .int .i64 0, .slice none 0 0, .int .i64 0, .int .i64 0] 31)).cell? ⟨w.heap.size, 2, none⟩ = some (.int .i64 m) := K0.cell 2
  have a3 : ((w.alloc (.cells #[.int .i64 o, .int .i64 l, .int .i64 m, .slice A ps.length c, .int .i64 b, .int .i64 t] 31)).alloc (.cells #[.int .i64 0, .int .i64 0, .int .i64 0, .slice none 0 0, .int .i64 0, .int .i64 0] 31)).cell? ⟨w.heap.size, 3, none⟩ = some (.slice A ps.length c) := K0.cell 3
  have a4 : ((w.alloc (.cells #[.int .i64 o, .int .i64 l, .int .i64 m, .slice A ps.length c, .int .i64 b, .int .i64 t] 31)).alloc (.cells #[.int .i64 0, .int .i64 0, .int .i64 0, .slice none 0 0, .int .i64 0, .int .i64 0] 31)).cell? ⟨w.heap.size, 4, none⟩ = some (.int .i64 b) := K0.cell 4
  have a5 : ((w.alloc (.cells #[.int .i64 o, .int .i64 l, .int .i64 m, .slice A ps.length c, .int .i64 b, .int .i64 t] 31)).alloc (.cells #[.int .i64 0, .int .i64 0, .int .i64 0, .slice none 0 0, .int .i64 0, .int .i64 0] 31)).cell? ⟨w.heap.size, 5, none⟩ = some (.int .i64 t) := K0.cell 5
  have CC := hide (fun wx => spec_l1Clear o l m wx (by omega) (by omega))
  rcases Sx.go_of hg with hx | ⟨hx, hc⟩
  · have CL := fun w2 (hb : Below w.heap.size w w2) => spec_l2Cleared o l m A c b t ps w2 (hr.keep hb.size hb) hn1 hb0 hb1 hcap
    have HS : Sx.stepP l m ps b t x = ps.take b.toNat := (Sx.adv_clear hx).1
    rw [← HS] at CL
    have CL := hide CL
    clear HS
    have HT : Hid (Sx.advT l x = -1) := hide (if_pos hx)
    have ec : (x == Sx.two l) = true := by rw [beq_iff_eq]; exact hx
    clear hx hg hk
    go_enter Try.func59, Try.ntmps59
    go_wp2_with fail
    refine ((unhide CC) _).mono ?_; rintro e w1 ⟨rfl, hb1⟩
    have B1 := below_next (Nat.le_refl _) B0 hb1
    have K1 := K0.below hb1 K0.lt
    have R1 := R0.below hb1 R0.lt
    clear B0 K0 R0 hb1 a0 a1 a2 a3 a4 a5
    have a0 : w1.cell? ⟨w.heap.size, 0, none⟩ = some (.int .i64 o) := K1.cell 0
    have a1 : w1.cell? ⟨w.heap.size, 1, none⟩ = some (.int .i64 l) := K1.cell 1
    have a2 : w1.cell? ⟨w.heap.size, 2, none⟩ = some (.int .i64 m) := K1.cell 2
    have a3 : w1.cell? ⟨w.heap.size, 3, none⟩ = some (.slice A ps.length c) := K1.cell 3
    have a4 : w1.cell? ⟨w.heap.size, 4, none⟩ = some (.int .i64 b) := K1.cell 4
    have a5 : w1.cell? ⟨w.heap.size, 5, none⟩ = some (.int .i64 t) := K1.cell 5
    go_wp2_with fail
    refine ((unhide CL) _ B1).mono ?_; rintro e w2 ⟨A2, c2, rfl, O2, hc2, hb2⟩
    have s1 := B1.size
    have B2 := below_next (Nat.le_refl _) B1 hb2
    have K2 := K1.below hb2 K1.lt
    have R2 := R1.below hb2 R1.lt
    clear B1 K1 R1 hb2 a0 a1 a2 a3 a4 a5
    have a0 : w2.cell? ⟨w.heap.size, 0, none⟩ = some (.int .i64 o) := K2.cell 0
    have a1 : w2.cell? ⟨w.heap.size, 1, none⟩ = some (.int .i64 l) := K2.cell 1
    have a2 : w2.cell? ⟨w.heap.size, 2, none⟩ = some (.int .i64 m) := K2.cell 2
    have a3 : w2.cell? ⟨w.heap.size, 3, none⟩ = some (.slice A ps.length c) := K2.cell 3
    have a4 : w2.cell? ⟨w.heap.size, 4, none⟩ = some (.int .i64 b) := K2.cell 4
    have a5 : w2.cell? ⟨w.heap.size, 5, none⟩ = some (.int .i64 t) := K2.cell 5
    have r0 : w2.cell? ⟨(w.heap.size + 1), 0, none⟩ = some (.int .i64 0) := R2.cell 0
    have r1 : w2.cell? ⟨(w.heap.size + 1), 1, none⟩ = some (.int .i64 0) := R2.cell 1
    have r2 : w2.cell? ⟨(w.heap.size + 1), 2, none⟩ = some (.int .i64 0) := R2.cell 2
    have r3 : w2.cell? ⟨(w.heap.size + 1), 3, none⟩ = some (.slice none 0 0) := R2.cell 3
    have r4 : w2.cell? ⟨(w.heap.size + 1), 4, none⟩ = some (.int .i64 0) := R2.cell 4
    have r5 : w2.cell? ⟨(w.heap.size + 1), 5, none⟩ = some (.int .i64 0) := R2.cell 5
    have fr0 := R2.frozen 0
    have fr1 := R2.frozen 1
    have fr2 := R2.frozen 2
    have fr3 := R2.frozen 3
    have fr4 := R2.frozen 4
    have fr5 := R2.frozen 5
    go_wp2_with fail
    have q := blk6_set R2 (.int .i64 o) (.int .i64 l) (.int .i64 m) (.slice A2 (Sx.stepP l m ps b t x).length c2) (.int .i64 b) (.int .i64 (-1))
    have BV := below_set6 (g := w.heap.size + 1) B2 (by omega) (.int .i64 o) (.int .i64 l) (.int .i64 m) (.slice A2 (Sx.stepP l m ps b t x).length c2) (.int .i64 b) (.int .i64 (-1))
    have OV := O2.only (only6 w2 (w.heap.size + 1) (.int .i64 o) (.int .i64 l) (.int .i64 m) (.slice A2 (Sx.stepP l m ps b t x).length c2) (.int .i64 b) (.int .i64 (-1))) R2 (by decide)
    have q0 := q.cell 0
    have q1 := q.cell 1
    have q2 := q.cell 2
    have q3 := q.cell 3
    have q4 := q.cell 4
    have q5 := q.cell 5
    exact bodyPost_ret (v := kv o l m A2 (Sx.stepP l m ps b t x).length c2 b (-1)) (by simp [results, Try.results59, go_sem, q0, q1, q2, q3, q4, q5]) rfl ⟨A2, c2, by rw [HT.out], OwnP.mono OV s1, hc2, BV⟩

  · have CL := hide (fun w2 (hb : Below w.heap.size w w2) => spec_l2After o l m A c b t x ps w2 (hr.keep hb.size hb) hk hc)
    have HT : Hid (Sx.advT l x = x) := hide (if_neg hx)
    have ec : (x == Sx.two l) = false := by rw [beq_eq_false_iff_ne]; exact hx
    clear hx hg hk hc
    go_enter Try.func59, Try.ntmps59
    go_wp2_with fail
    refine ((unhide CC) _).mono ?_; rintro e w1 ⟨rfl, hb1⟩
    have B1 := below_next (Nat.le_refl _) B0 hb1
    have K1 := K0.below hb1 K0.lt
    have R1 := R0.below hb1 R0.lt
    clear B0 K0 R0 hb1 a0 a1 a2 a3 a4 a5
    have a0 : w1.cell? ⟨w.heap.size, 0, none⟩ = some (.int .i64 o) := K1.cell 0
    have a1 : w1.cell? ⟨w.heap.size, 1, none⟩ = some (.int .i64 l) := K1.cell 1
    have a2 : w1.cell? ⟨w.heap.size, 2, none⟩ = some (.int .i64 m) := K1.cell 2
    have a3 : w1.cell? ⟨w.heap.size, 3, none⟩ = some (.slice A ps.length c) := K1.cell 3
    have a4 : w1.cell? ⟨w.heap.size, 4, none⟩ = some (.int .i64 b) := K1.cell 4
    have a5 : w1.cell? ⟨w.heap.size, 5, none⟩ = some (.int .i64 t) := K1.cell 5
    go_wp2_with fail
    refine ((unhide CL) _ B1).mono ?_; rintro e w2 ⟨A2, c2, rfl, O2, hc2, hb2⟩
    have s1 := B1.size
    have B2 := below_next (Nat.le_refl _) B1 hb2
    have K2 := K1.below hb2 K1.lt
    have R2 := R1.below hb2 R1.lt
    clear B1 K1 R1 hb2 a0 a1 a2 a3 a4 a5
    have a0 : w2.cell? ⟨w.heap.size, 0, none⟩ = some (.int .i64 o) := K2.cell 0
    have a1 : w2.cell? ⟨w.heap.size, 1, none⟩ = some (.int .i64 l) := K2.cell 1
    have a2 : w2.cell? ⟨w.heap.size, 2, none⟩ = some (.int .i64 m) := K2.cell 2
    have a3 : w2.cell? ⟨w.heap.size, 3, none⟩ = some (.slice A ps.length c) := K2.cell 3
    have a4 : w2.cell? ⟨w.heap.size, 4, none⟩ = some (.int .i64 b) := K2.cell 4
    have a5 : w2.cell? ⟨w.heap.size, 5, none⟩ = some (.int .i64 t) := K2.cell 5
    have r0 : w2.cell? ⟨(w.heap.size + 1), 0, none⟩ = some (.int .i64 0) := R2.cell 0
    have r1 : w2.cell? ⟨(w.heap.size + 1), 1, none⟩ = some (.int .i64 0) := R2.cell 1
    have r2 : w2.cell? ⟨(w.heap.size + 1), 2, none⟩ = some (.int .i64 0) := R2.cell 2
    have r3 : w2.cell? ⟨(w.heap.size + 1), 3, none⟩ = some (.slice none 0 0) := R2.cell 3
    have r4 : w2.cell? ⟨(w.heap.size + 1), 4, none⟩ = some (.int .i64 0) := R2.cell 4
    have r5 : w2.cell? ⟨(w.heap.size + 1), 5, none⟩ = some (.int .i64 0) := R2.cell 5
    have fr0 := R2.frozen 0
    have fr1 := R2.frozen 1
    have fr2 := R2.frozen 2
    have fr3 := R2.frozen 3
    have fr4 := R2.frozen 4
    have fr5 := R2.frozen 5
    go_wp2_with fail
    have q := blk6_set R2 (.int .i64 o) (.int .i64 l) (.int .i64 m) (.slice A2 (Sx.stepP l m ps b t x).length c2) (.int .i64 b) (.int .i64 x)
    have BV := below_set6 (g := w.heap.size + 1) B2 (by omega) (.int .i64 o) (.int .i64 l) (.int .i64 m) (.slice A2 (Sx.stepP l m ps b t x).length c2) (.int .i64 b) (.int .i64 x)
    have OV := O2.only (only6 w2 (w.heap.size + 1) (.int .i64 o) (.int .i64 l) (.int .i64 m) (.slice A2 (Sx.stepP l m ps b t x).length c2) (.int .i64 b) (.int .i64 x)) R2 (by decide)
    have q0 := q.cell 0
    have q1 := q.cell 1
    have q2 := q.cell 2
    have q3 := q.cell 3
    have q4 := q.cell 4
    have q5 := q.cell 5
    exact bodyPost_ret (v := kv o l m A2 (Sx.stepP l m ps b t x).length c2 b x) (by simp [results, Try.results59, go_sem, q0, q1, q2, q3, q4, q5]) rfl ⟨A2, c2, by rw [HT.out], OwnP.mono OV s1, hc2, BV⟩

set_option maxRecDepth 100000 in
set_option maxHeartbeats 2000000 in
theorem aftS_bad (o l m : Int) (A : Option Addr) (c : Nat) (b t x : Int) (ps : List (Int × Int)) (w : World) (hr : PR w w.heap.size A ps) (hz : ps.length ≤ 1048576) (_hcap : ps.length ≤ c) (hk : Sx.kOK o l m ps b t = false) :
    Calls Try.prog 15 #[kv o l m A ps.length c b t, .int .i64 x] w fun e w' => ∃ A' c', e = .returned (.tuple #[kv (Sx.ifA (Sx.aftOK o l m ps b t x) o) (Sx.ifA (Sx.aftOK o l m ps b t x) l) (Sx.ifA (Sx.aftOK o l m ps b t x) m) A' (Sx.ifP (Sx.aftOK o l m ps b t x) (Sx.stepP l m ps b t x)).length c' (Sx.ifA (Sx.aftOK o l m ps b t x) b) (Sx.ifA (Sx.aftOK o l m ps b t x) (Sx.advT l x)), .bool (Sx.aftOK o l m ps b t x)]) ∧ OwnP w' w.heap.size A' (Sx.ifP (Sx.aftOK o l m ps b t x) (Sx.stepP l m ps b t x)) ∧ (Sx.ifP (Sx.aftOK o l m ps b t x) (Sx.stepP l m ps b t x)).length ≤ c' ∧ Below w.heap.size w w' := by
  have B0 : Below w.heap.size w ((w.alloc (.cells #[.int .i64 o, .int .i64 l, .int .i64 m, .slice A ps.length c, .int .i64 b, .int .i64 t] 31)).alloc (.cells #[.int .i64 0, .int .i64 0, .int .i64 0, .slice none 0 0, .int .i64 0, .int .i64 0] 31)) := ((Below.refl _ _).alloc (Nat.le_refl _) _).alloc (by simp) _
  have K0 := (Blk.new w 31 #[.int .i64 o, .int .i64 l, .int .i64 m, .slice A ps.length c, .int .i64 b, .int .i64 t]).alloc (.cells #[.int .i64 0, .int .i64 0, .int .i64 0, .slice none 0 0, .int .i64 0, .int .i64 0] 31)
  have R0 := blk_new2 w (.cells #[.int .i64 o, .int .i64 l, .int .i64 m, .slice A ps.length c, .int .i64 b, .int .i64 t] 31) 31 #[.int .i64 0, .int .i64 0, .int .i64 0, .slice none 0 0, .int .i64 0, .int .i64 0]
  have a0 : ((w.alloc (.cells #[.int .i64 o, .int .i64 l, .int .i64 m, .slice A ps.length c, .int .i64 b, .int .i64 t] 31)).alloc (.cells #[.int .i64 0, .int .i64 0, .int .i64 0, .slice none 0 0, .int .i64 0, .int .i64 0] 31)).cell? ⟨w.heap.size, 0, none⟩ = some (.int .i64 o) := K0.cell 0
  have a1 : ((w.alloc (.cells #[.int .i64 o, .int .i64 l, .int .i64 m, .slice A ps.length c, .int .i64 b, .int .i64 t] 31)).alloc (.cells #[.int .i64 0, .int .i64 0, .int .i64 0, .slice none 0 0, .int .i64 0, .int .i64 0] 31)).cell? ⟨w.heap.size, 1, none⟩ = some (.int .i64 l) := K0.cell 1
  have a2 : ((w.alloc (.cells #[.int .i64 o, .int .i64 l, .int .i64 m, .slice A ps.length c, .int .i64 b, .int .i64 t] 31)).alloc (.cells #[.int .i64 0, .int .i64 0, .int .i64 0, .slice none 0 0, .int .i64 0, .int .i64 0] 31)).cell? ⟨w.heap.size, 2, none⟩ = some (.int .i64 m) := K0.cell 2
  have a3 : ((w.alloc (.cells #[.int .i64 o, .int .i64 l, .int .i64 m, .slice A ps.length c, .int .i64 b, .int .i64 t] 31)).alloc (.cells #[.int .i64 0, .int .i64 0, .int .i64 0, .slice none 0 0, .int .i64 0, .int .i64 0] 31)).cell? ⟨w.heap.size, 3, none⟩ = some (.slice A ps.length c) := K0.cell 3
  have a4 : ((w.alloc (.cells #[.int .i64 o, .int .i64 l, .int .i64 m, .slice A ps.length c, .int .i64 b, .int .i64 t] 31)).alloc (.cells #[.int .i64 0, .int .i64 0, .int .i64 0, .slice none 0 0, .int .i64 0, .int .i64 0] 31)).cell? ⟨w.heap.size, 4, none⟩ = some (.int .i64 b) := K0.cell 4
  have a5 : ((w.alloc (.cells #[.int .i64 o, .int .i64 l, .int .i64 m, .slice A ps.length c, .int .i64 b, .int .i64 t] 31)).alloc (.cells #[.int .i64 0, .int .i64 0, .int .i64 0, .slice none 0 0, .int .i64 0, .int .i64 0] 31)).cell? ⟨w.heap.size, 5, none⟩ = some (.int .i64 t) := K0.cell 5
  have CV := spec_KnownValid o l m A c b t ps ((w.alloc (.cells #[.int .i64 o, .int .i64 l, .int .i64 m, .slice A ps.length c, .int .i64 b, .int .i64 t] 31)).alloc (.cells #[.int .i64 0, .int .i64 0, .int .i64 0, .slice none 0 0, .int .i64 0, .int .i64 0] 31)) (hr.keep B0.size B0) hz
  rw [hk] at CV
  have CV := hide CV
  have HA := Sx.aft_no (x := x) (.inl hk)
  clear hk
  have HE := hide (show Ending.returned (.tuple #[kv 0 0 0 none 0 0 0 0, .bool false]) = .returned (.tuple #[kv (Sx.ifA (Sx.aftOK o l m ps b t x) o) (Sx.ifA (Sx.aftOK o l m ps b t x) l) (Sx.ifA (Sx.aftOK o l m ps b t x) m) none (Sx.ifP (Sx.aftOK o l m ps b t x) (Sx.stepP l m ps b t x)).length 0 (Sx.ifA (Sx.aftOK o l m ps b t x) b) (Sx.ifA (Sx.aftOK o l m ps b t x) (Sx.advT l x)), .bool (Sx.aftOK o l m ps b t x)]) by rw [HA]; rfl)
  have HO : Hid (∀ wy, OwnP wy w.heap.size none (Sx.ifP (Sx.aftOK o l m ps b t x) (Sx.stepP l m ps b t x))) := hide fun wy => by rw [HA]; exact .inl rfl
  have HC : Hid ((Sx.ifP (Sx.aftOK o l m ps b t x) (Sx.stepP l m ps b t x)).length ≤ 0) := hide (by rw [HA]; exact Nat.le_refl _)
  clear HA
  go_enter Try.func15, Try.ntmps15
  go_wp2_with fail
  refine (unhide CV).mono ?_; rintro e w1 ⟨rfl, hb1⟩
  have B1 := below_next (Nat.le_refl _) B0 hb1
  have K1 := K0.below hb1 K0.lt
  have R1 := R0.below hb1 R0.lt
  clear B0 K0 R0 hb1 a0 a1 a2 a3 a4 a5
  have a0 : w1.cell? ⟨w.heap.size, 0, none⟩ = some (.int .i64 o) := K1.cell 0
  have a1 : w1.cell? ⟨w.heap.size, 1, none⟩ = some (.int .i64 l) := K1.cell 1
  have a2 : w1.cell? ⟨w.heap.size, 2, none⟩ = some (.int .i64 m) := K1.cell 2
  have a3 : w1.cell? ⟨w.heap.size, 3, none⟩ = some (.slice A ps.length c) := K1.cell 3
  have a4 : w1.cell? ⟨w.heap.size, 4, none⟩ = some (.int .i64 b) := K1.cell 4
  have a5 : w1.cell? ⟨w.heap.size, 5, none⟩ = some (.int .i64 t) := K1.cell 5
  have r0 : w1.cell? ⟨(w.heap.size + 1), 0, none⟩ = some (.int .i64 0) := R1.cell 0
  have r1 : w1.cell? ⟨(w.heap.size + 1), 1, none⟩ = some (.int .i64 0) := R1.cell 1
  have r2 : w1.cell? ⟨(w.heap.size + 1), 2, none⟩ = some (.int .i64 0) := R1.cell 2
  have r3 : w1.cell? ⟨(w.heap.size + 1), 3, none⟩ = some (.slice none 0 0) := R1.cell 3
  have r4 : w1.cell? ⟨(w.heap.size + 1), 4, none⟩ = some (.int .i64 0) := R1.cell 4
  have r5 : w1.cell? ⟨(w.heap.size + 1), 5, none⟩ = some (.int .i64 0) := R1.cell 5
  have fr0 := R1.frozen 0
  have fr1 := R1.frozen 1
  have fr2 := R1.frozen 2
  have fr3 := R1.frozen 3
  have fr4 := R1.frozen 4
  have fr5 := R1.frozen 5
  go_wp2_with fail
  have q := blk6_set R1 (.int .i64 0) (.int .i64 0) (.int .i64 0) (.slice none 0 0) (.int .i64 0) (.int .i64 0)
  have BV := below_set6 (g := w.heap.size + 1) B1 (by omega) (.int .i64 0) (.int .i64 0) (.int .i64 0) (.slice none 0 0) (.int .i64 0) (.int .i64 0)
  have q0 := q.cell 0
  have q1 := q.cell 1
  have q2 := q.cell 2
  have q3 := q.cell 3
  have q4 := q.cell 4
  have q5 := q.cell 5
  exact bodyPost_ret (v := .tuple #[kv 0 0 0 none 0 0 0 0, .bool false]) (by simp [results, Try.results15, go_sem, q0, q1, q2, q3, q4, q5]) rfl ⟨none, 0, HE.out, HO.out _, HC.out, BV⟩

set_option maxRecDepth 100000 in
set_option maxHeartbeats 2000000 in
theorem aftS_far (o l m : Int) (A : Option Addr) (c : Nat) (b t x : Int) (ps : List (Int × Int)) (w : World) (hr : PR w w.heap.size A ps) (hz : ps.length ≤ 1048576) (_hcap : ps.length ≤ c) (hk : Sx.kOK o l m ps b t = true) (hx : x ≠ Sx.two l) (hf : Sx.canB l m ps.length t x = false) :
    Calls Try.prog 15 #[kv o l m A ps.length c b t, .int .i64 x] w fun e w' => ∃ A' c', e = .returned (.tuple #[kv (Sx.ifA (Sx.aftOK o l m ps b t x) o) (Sx.ifA (Sx.aftOK o l m ps b t x) l) (Sx.ifA (Sx.aftOK o l m ps b t x) m) A' (Sx.ifP (Sx.aftOK o l m ps b t x) (Sx.stepP l m ps b t x)).length c' (Sx.ifA (Sx.aftOK o l m ps b t x) b) (Sx.ifA (Sx.aftOK o l m ps b t x) (Sx.advT l x)), .bool (Sx.aftOK o l m ps b t x)]) ∧ OwnP w' w.heap.size A' (Sx.ifP (Sx.aftOK o l m ps b t x) (Sx.stepP l m ps b t x)) ∧ (Sx.ifP (Sx.aftOK o l m ps b t x) (Sx.stepP l m ps b t x)).length ≤ c' ∧ Below w.heap.size w w' := by
  have B0 : Below w.heap.size w ((w.alloc (.cells #[.int .i64 o, .int .i64 l, .int .i64 m, .slice A ps.length c, .int .i64 b, .int .i64 t] 31)).alloc (.cells #[.int .i64 0, .int .i64 0, .int .i64 0, .slice none 0 0, .int .i64 0, .int .i64 0] 31)) := ((Below.refl _ _).alloc (Nat.le_refl _) _).alloc (by simp) _
  have K0 := (Blk.new w 31 #[.int .i64 o, .int .i64 l, .int .i64 m, .slice A ps.length c, .int .i64 b, .int .i64 t]).alloc (.cells #[.int .i64 0, .int .i64 0, .int .i64 0, .slice none 0 0, .int .i64 0, .int .i64 0] 31)
  have R0 := blk_new2 w (.cells #[.int .i64 o, .int .i64 l, .int .i64 m, .slice A ps.length c, .int .i64 b, .int .i64 t] 31) 31 #[.int .i64 0, .int .i64 0, .int .i64 0, .slice none 0 0, .int .i64 0, .int .i64 0]
  have a0 : ((w.alloc (.cells #[.int .i64 o, .int .i64 l, .int .i64 m, .slice A ps.length c, .int .i64 b, .int .i64 t] 31)).alloc (.cells #[.int .i64 0, .int .i64 0, .int .i64 0, .slice none 0 0, .int .i64 0, .int .i64 0] 31)).cell? ⟨w.heap.size, 0, none⟩ = some (.int .i64 o) := K0.cell 0
  have a1 : ((w.alloc (.cells #[.int .i64 o, .int .i64 l, .int .i64 m, .slice A ps.length c, .int .i64 b, .int .i64 t] 31)).alloc (.cells #[.int .i64 0, .int .i64 0, .int .i64 0, .slice none 0 0, .int .i64 0, .int .i64 0] 31)).cell? ⟨w.heap.size, 1, none⟩ = some (.int .i64 l) := K0.cell 1
  have a2 : ((w.alloc (.cells #[.int .i64 o, .int .i64 l, .int .i64 m, .slice A ps.length c, .int .i64 b, .int .i64 t] 31)).alloc (.cells #[.int .i64 0, .int .i64 0, .int .i64 0, .slice none 0 0, .int .i64 0, .int .i64 0] 31)).cell? ⟨w.heap.size, 2, none⟩ = some (.int .i64 m) := K0.cell 2
  have a3 : ((w.alloc (.cells #[.int .i64 o, .int .i64 l, .int .i64 m, .slice A ps.length c, .int .i64 b, .int .i64 t] 31)).alloc (.cells #[.int .i64 0, .int .i64 0, .int .i64 0, .slice none 0 0, .int .i64 0, .int .i64 0] 31)).cell? ⟨w.heap.size, 3, none⟩ = some (.slice A ps.length c) := K0.cell 3
  have a4 : ((w.alloc (.cells #[.int .i64 o, .int .i64 l, .int .i64 m, .slice A ps.length c, .int .i64 b, .int .i64 t] 31)).alloc (.cells #[.int .i64 0, .int .i64 0, .int .i64 0, .slice none 0 0, .int .i64 0, .int .i64 0] 31)).cell? ⟨w.heap.size, 4, none⟩ = some (.int .i64 b) := K0.cell 4
  have a5 : ((w.alloc (.cells #[.int .i64 o, .int .i64 l, .int .i64 m, .slice A ps.length c, .int .i64 b, .int .i64 t] 31)).alloc (.cells #[.int .i64 0, .int .i64 0, .int .i64 0, .slice none 0 0, .int .i64 0, .int .i64 0] 31)).cell? ⟨w.heap.size, 5, none⟩ = some (.int .i64 t) := K0.cell 5
  have CV := spec_KnownValid o l m A c b t ps ((w.alloc (.cells #[.int .i64 o, .int .i64 l, .int .i64 m, .slice A ps.length c, .int .i64 b, .int .i64 t] 31)).alloc (.cells #[.int .i64 0, .int .i64 0, .int .i64 0, .slice none 0 0, .int .i64 0, .int .i64 0] 31)) (hr.keep B0.size B0) hz
  rw [hk] at CV
  have CV := hide CV
  obtain ⟨hl0, hl1, hm0, hm1, hn1, ht1⟩ := Sx.kOK_nums hk
  have CC := hide (fun wx => spec_l1Clear o l m wx (by omega) (by omega))
  have CF := hide (fun wx => spec_l2Follows o l m A c b t x ps wx hl0 hl1 (by omega) hm1 hn1)
  rw [hf] at CF
  have HA := Sx.aft_no (o := o) (b := b) (.inr ⟨hx, hf⟩)
  have ec : (x != Sx.two l) = true := by rw [bne_iff_ne]; exact hx
  clear hk hx hf
  have HE := hide (show Ending.returned (.tuple #[kv 0 0 0 none 0 0 0 0, .bool false]) = .returned (.tuple #[kv (Sx.ifA (Sx.aftOK o l m ps b t x) o) (Sx.ifA (Sx.aftOK o l m ps b t x) l) (Sx.ifA (Sx.aftOK o l m ps b t x) m) none (Sx.ifP (Sx.aftOK o l m ps b t x) (Sx.stepP l m ps b t x)).length 0 (Sx.ifA (Sx.aftOK o l m ps b t x) b) (Sx.ifA (Sx.aftOK o l m ps b t x) (Sx.advT l x)), .bool (Sx.aftOK o l m ps b t x)]) by rw [HA]; rfl)
  have HO : Hid (∀ wy, OwnP wy w.heap.size none (Sx.ifP (Sx.aftOK o l m ps b t x) (Sx.stepP l m ps b t x))) := hide fun wy => by rw [HA]; exact .inl rfl
  have HC : Hid ((Sx.ifP (Sx.aftOK o l m ps b t x) (Sx.stepP l m ps b t x)).length ≤ 0) := hide (by rw [HA]; exact Nat.le_refl _)
  clear HA
  go_enter Try.func15, Try.ntmps15
  go_wp2_with fail
  refine (unhide CV).mono ?_; rintro e w1 ⟨rfl, hb1⟩
  have B1 := below_next (Nat.le_refl _) B0 hb1
  have K1 := K0.below hb1 K0.lt
  have R1 := R0.below hb1 R0.lt
  clear B0 K0 R0 hb1 a0 a1 a2 a3 a4 a5
  have a0 : w1.cell? ⟨w.heap.size, 0, none⟩ = some (.int .i64 o) := K1.cell 0
  have a1 : w1.cell? ⟨w.heap.size, 1, none⟩ = some (.int .i64 l) := K1.cell 1
  have a2 : w1.cell? ⟨w.heap.size, 2, none⟩ = some (.int .i64 m) := K1.cell 2
  have a3 : w1.cell? ⟨w.heap.size, 3, none⟩ = some (.slice A ps.length c) := K1.cell 3
  have a4 : w1.cell? ⟨w.heap.size, 4, none⟩ = some (.int .i64 b) := K1.cell 4
  have a5 : w1.cell? ⟨w.heap.size, 5, none⟩ = some (.int .i64 t) := K1.cell 5
  go_wp2_with fail
  refine ((unhide CC) _).mono ?_; rintro e w2 ⟨rfl, hb2⟩
  have B2 := below_next (Nat.le_refl _) B1 hb2
  have K2 := K1.below hb2 K1.lt
  have R2 := R1.below hb2 R1.lt
  clear B1 K1 R1 hb2 a0 a1 a2 a3 a4 a5
  have a0 : w2.cell? ⟨w.heap.size, 0, none⟩ = some (.int .i64 o) := K2.cell 0
  have a1 : w2.cell? ⟨w.heap.size, 1, none⟩ = some (.int .i64 l) := K2.cell 1
  have a2 : w2.cell? ⟨w.heap.size, 2, none⟩ = some (.int .i64 m) := K2.cell 2
  have a3 : w2.cell? ⟨w.heap.size, 3, none⟩ = some (.slice A ps.length c) := K2.cell 3
  have a4 : w2.cell? ⟨w.heap.size, 4, none⟩ = some (.int .i64 b) := K2.cell 4
  have a5 : w2.cell? ⟨w.heap.size, 5, none⟩ = some (.int .i64 t) := K2.cell 5
  go_wp2_with fail
  refine ((unhide CF) _).mono ?_; rintro e w3 ⟨rfl, hb3⟩
  have B3 := below_next (Nat.le_refl _) B2 hb3
  have K3 := K2.below hb3 K2.lt
  have R3 := R2.below hb3 R2.lt
  clear B2 K2 R2 hb3 a0 a1 a2 a3 a4 a5
  have a0 : w3.cell? ⟨w.heap.size, 0, none⟩ = some (.int .i64 o) := K3.cell 0
  have a1 : w3.cell? ⟨w.heap.size, 1, none⟩ = some (.int .i64 l) := K3.cell 1
  have a2 : w3.cell? ⟨w.heap.size, 2, none⟩ = some (.int .i64 m) := K3.cell 2
  have a3 : w3.cell? ⟨w.heap.size, 3, none⟩ = some (.slice A ps.length c) := K3.cell 3
  have a4 : w3.cell? ⟨w.heap.size, 4, none⟩ = some (.int .i64 b) := K3.cell 4
  have a5 : w3.cell? ⟨w.heap.size, 5, none⟩ = some (.int .i64 t) := K3.cell 5
  have r0 : w3.cell? ⟨(w.heap.size + 1), 0, none⟩ = some (.int .i64 0) := R3.cell 0
  have r1 : w3.cell? ⟨(w.heap.size + 1), 1, none⟩ = some (.int .i64 0) := R3.cell 1
  have r2 : w3.cell? ⟨(w.heap.size + 1), 2, none⟩ = some (.int .i64 0) := R3.cell 2
  have r3 : w3.cell? ⟨(w.heap.size + 1), 3, none⟩ = some (.slice none 0 0) := R3.cell 3
  have r4 : w3.cell? ⟨(w.heap.size + 1), 4, none⟩ = some (.int .i64 0) := R3.cell 4
  have r5 : w3.cell? ⟨(w.heap.size + 1), 5, none⟩ = some (.int .i64 0) := R3.cell 5
  have fr0 := R3.frozen 0
  have fr1 := R3.frozen 1
  have fr2 := R3.frozen 2
  have fr3 := R3.frozen 3
  have fr4 := R3.frozen 4
  have fr5 := R3.frozen 5
  go_wp2_with fail
  have q := blk6_set R3 (.int .i64 0) (.int .i64 0) (.int .i64 0) (.slice none 0 0) (.int .i64 0) (.int .i64 0)
  have BV := below_set6 (g := w.heap.size + 1) B3 (by omega) (.int .i64 0) (.int .i64 0) (.int .i64 0) (.slice none 0 0) (.int .i64 0) (.int .i64 0)
  have q0 := q.cell 0
  have q1 := q.cell 1
  have q2 := q.cell 2
  have q3 := q.cell 3
  have q4 := q.cell 4
  have q5 := q.cell 5
  exact bodyPost_ret (v := .tuple #[kv 0 0 0 none 0 0 0 0, .bool false]) (by simp [results, Try.results15, go_sem, q0, q1, q2, q3, q4, q5]) rfl ⟨none, 0, HE.out, HO.out _, HC.out, BV⟩

set_option maxRecDepth 100000 in
set_option maxHeartbeats 2000000 in
theorem aftS_clear (o l m : Int) (A : Option Addr) (c : Nat) (b t x : Int) (ps : List (Int × Int)) (w : World) (hr : PR w w.heap.size A ps) (hz : ps.length ≤ 1048576) (hcap : ps.length ≤ c) (hk : Sx.kOK o l m ps b t = true) (hx : x = Sx.two l) (hg : Sx.goB l m ps.length t x = true) :
    Calls Try.prog 15 #[kv o l m A ps.length c b t, .int .i64 x] w fun e w' => ∃ A' c', e = .returned (.tuple #[kv (Sx.ifA (Sx.aftOK o l m ps b t x) o) (Sx.ifA (Sx.aftOK o l m ps b t x) l) (Sx.ifA (Sx.aftOK o l m ps b t x) m) A' (Sx.ifP (Sx.aftOK o l m ps b t x) (Sx.stepP l m ps b t x)).length c' (Sx.ifA (Sx.aftOK o l m ps b t x) b) (Sx.ifA (Sx.aftOK o l m ps b t x) (Sx.advT l x)), .bool (Sx.aftOK o l m ps b t x)]) ∧ OwnP w' w.heap.size A' (Sx.ifP (Sx.aftOK o l m ps b t x) (Sx.stepP l m ps b t x)) ∧ (Sx.ifP (Sx.aftOK o l m ps b t x) (Sx.stepP l m ps b t x)).length ≤ c' ∧ Below w.heap.size w w' := by
  have B0 : Below w.heap.size w ((w.alloc (.cells #[.int .i64 o, .int .i64 l, .int .i64 m, .slice A ps.length c, .int .i64 b, .int .i64 t] 31)).alloc (.cells #[.int .i64 0, .int .i64 0, .int .i64 0, .slice none 0 0, .int .i64 0, .int .i64 0] 31)) := ((Below.refl _ _).alloc (Nat.le_refl _) _).alloc (by simp) _
  have K0 := (Blk.new w 31 #[.int .i64 o, .int .i64 l, .int .i64 m, .slice A ps.length c, .int .i64 b, .int .i64 t]).alloc (.cells #[.int .i64 0, .int .i64 0, .int .i64 0, .slice none 0 0, .int .i64 0, .int .i64 0] 31)
  have R0 := blk_new2 w (.cells #[.int .i64 o, .int .i64 l, .int .i64 m, .slice A ps.length c, .int .i64 b, .int .i64 t] 31) 31 #[.int .i64 0, .int .i64 0, .int .i64 0, .slice none 0 0, .int .i64 0, .int .i64 0]
  have a0 : ((w.alloc (.cells #[.int .i64 o, .int .i64 l, .int .i64 m, .slice A ps.length c, .int .i64 b, .int .i64 t] 31)).alloc (.cells #[.int .i64 0, .int .i64 0, .int .i64 0, .slice none 0 0, .int .i64 0, .int .i64 0] 31)).cell? ⟨w.heap.size, 0, none⟩ = some (.int .i64 o) := K0.cell 0
  have a1 : ((w.alloc (.cells #[.int .i64 o, .int .i64 l, .int .i64 m, .slice A ps.length c, .int .i64 b, .int .i64 t] 31)).alloc (.cells #[.int .i64 0, .int .i64 0, .int .i64 0, .slice none 0 0, .int .i64 0, .int .i64 0] 31)).cell? ⟨w.heap.size, 1, none⟩ = some (.int .i64 l) := K0.cell 1
  have a2 : ((w.alloc (.cells #[.int .i64 o, .int .i64 l, .int .i64 m, .slice A ps.length c, .int .i64 b, .int .i64 t] 31)).alloc (.cells #[.int .i64 0, .int .i64 0, .int .i64 0, .slice none 0 0, .int .i64 0, .int .i64 0] 31)).cell? ⟨w.heap.size, 2, none⟩ = some (.int .i64 m) := K0.cell 2
  have a3 : ((w.alloc (.cells #[.int .i64 o, .int .i64 l, .int .i64 m, .slice A ps.length c, .int .i64 b, .int .i64 t] 31)).alloc (.cells #[.int .i64 0, .int .i64 0, .int .i64 0, .slice none 0 0, .int .i64 0, .int .i64 0] 31)).cell? ⟨w.heap.size, 3, none⟩ = some (.slice A ps.length c) := K0.cell 3
  have a4 : ((w.alloc (.cells #[.int .i64 o, .int .i64 l, .int .i64 m, .slice A ps.length c, .int .i64 b, .int .i64 t] 31)).alloc (.cells #[.int .i64 0, .int .i64 0, .int .i64 0, .slice none 0 0, .int .i64 0, .int .i64 0] 31)).cell? ⟨w.heap.size, 4, none⟩ = some (.int .i64 b) := K0.cell 4
  have a5 : ((w.alloc (.cells #[.int .i64 o, .int .i64 l, .int .i64 m, .slice A ps.length c, .int .i64 b, .int .i64 t] 31)).alloc (.cells #[.int .i64 0, .int .i64 0, .int .i64 0, .slice none 0 0, .int .i64 0, .int .i64 0] 31)).cell? ⟨w.heap.size, 5, none⟩ = some (.int .i64 t) := K0.cell 5
  have CV := spec_KnownValid o l m A c b t ps ((w.alloc (.cells #[.int .i64 o, .int .i64 l, .int .i64 m, .slice A ps.length c, .int .i64 b, .int .i64 t] 31)).alloc (.cells #[.int .i64 0, .int .i64 0, .int .i64 0, .slice none 0 0, .int .i64 0, .int .i64 0] 31)) (hr.keep B0.size B0) hz
  rw [hk] at CV
  have CV := hide CV
  obtain ⟨hl0, hl1, hm0, hm1, hn1, ht1⟩ := Sx.kOK_nums hk
  have CC := hide (fun wx => spec_l1Clear o l m wx (by omega) (by omega))
  have CL := hide (fun w2 (hb : Below w.heap.size w w2) => spec_l2Step o l m A c b t x ps w2 (hr.keep hb.size hb) hcap hk hg)
  have HA := hide (Sx.aft_yes hk (.inl hx))
  have ec : (x != Sx.two l) = false := by rw [hx]; simp
  clear hk hx hg
  go_enter Try.func15, Try.ntmps15
  go_wp2_with fail
  refine (unhide CV).mono ?_; rintro e w1 ⟨rfl, hb1⟩
  have B1 := below_next (Nat.le_refl _) B0 hb1
  have K1 := K0.below hb1 K0.lt
  have R1 := R0.below hb1 R0.lt
  clear B0 K0 R0 hb1 a0 a1 a2 a3 a4 a5
  have a0 : w1.cell? ⟨w.heap.size, 0, none⟩ = some (.int .i64 o) := K1.cell 0
  have a1 : w1.cell? ⟨w.heap.size, 1, none⟩ = some (.int .i64 l) := K1.cell 1
  have a2 : w1.cell? ⟨w.heap.size, 2, none⟩ = some (.int .i64 m) := K1.cell 2
  have a3 : w1.cell? ⟨w.heap.size, 3, none⟩ = some (.slice A ps.length c) := K1.cell 3
  have a4 : w1.cell? ⟨w.heap.size, 4, none⟩ = some (.int .i64 b) := K1.cell 4
  have a5 : w1.cell? ⟨w.heap.size, 5, none⟩ = some (.int .i64 t) := K1.cell 5
  go_wp2_with fail
  refine ((unhide CC) _).mono ?_; rintro e w2 ⟨rfl, hb2⟩
  have B2 := below_next (Nat.le_refl _) B1 hb2
  have K2 := K1.below hb2 K1.lt
  have R2 := R1.below hb2 R1.lt
  clear B1 K1 R1 hb2 a0 a1 a2 a3 a4 a5
  have a0 : w2.cell? ⟨w.heap.size, 0, none⟩ = some (.int .i64 o) := K2.cell 0
  have a1 : w2.cell? ⟨w.heap.size, 1, none⟩ = some (.int .i64 l) := K2.cell 1
  have a2 : w2.cell? ⟨w.heap.size, 2, none⟩ = some (.int .i64 m) := K2.cell 2
  have a3 : w2.cell? ⟨w.heap.size, 3, none⟩ = some (.slice A ps.length c) := K2.cell 3
  have a4 : w2.cell? ⟨w.heap.size, 4, none⟩ = some (.int .i64 b) := K2.cell 4
  have a5 : w2.cell? ⟨w.heap.size, 5, none⟩ = some (.int .i64 t) := K2.cell 5
  go_wp2_with fail
  refine ((unhide CL) _ B2).mono ?_; rintro e w3 ⟨A2, c2, rfl, O3, hc2, hb3⟩
  have s1 := B2.size
  have B3 := below_next (Nat.le_refl _) B2 hb3
  have K3 := K2.below hb3 K2.lt
  have R3 := R2.below hb3 R2.lt
  clear B2 K2 R2 hb3 a0 a1 a2 a3 a4 a5
  have a0 : w3.cell? ⟨w.heap.size, 0, none⟩ = some (.int .i64 o) := K3.cell 0
  have a1 : w3.cell? ⟨w.heap.size, 1, none⟩ = some (.int .i64 l) := K3.cell 1
  have a2 : w3.cell? ⟨w.heap.size, 2, none⟩ = some (.int .i64 m) := K3.cell 2
  have a3 : w3.cell? ⟨w.heap.size, 3, none⟩ = some (.slice A ps.length c) := K3.cell 3
  have a4 : w3.cell? ⟨w.heap.size, 4, none⟩ = some (.int .i64 b) := K3.cell 4
  have a5 : w3.cell? ⟨w.heap.size, 5, none⟩ = some (.int .i64 t) := K3.cell 5
  have r0 : w3.cell? ⟨(w.heap.size + 1), 0, none⟩ = some (.int .i64 0) := R3.cell 0
  have r1 : w3.cell? ⟨(w.heap.size + 1), 1, none⟩ = some (.int .i64 0) := R3.cell 1
  have r2 : w3.cell? ⟨(w.heap.size + 1), 2, none⟩ = some (.int .i64 0) := R3.cell 2
  have r3 : w3.cell? ⟨(w.heap.size + 1), 3, none⟩ = some (.slice none 0 0) := R3.cell 3
  have r4 : w3.cell? ⟨(w.heap.size + 1), 4, none⟩ = some (.int .i64 0) := R3.cell 4
  have r5 : w3.cell? ⟨(w.heap.size + 1), 5, none⟩ = some (.int .i64 0) := R3.cell 5
  have fr0 := R3.frozen 0
  have fr1 := R3.frozen 1
  have fr2 := R3.frozen 2
  have fr3 := R3.frozen 3
  have fr4 := R3.frozen 4
  have fr5 := R3.frozen 5
  go_wp2_with fail
  have q := blk6_set R3 (.int .i64 o) (.int .i64 l) (.int .i64 m) (.slice A2 (Sx.stepP l m ps b t x).length c2) (.int .i64 b) (.int .i64 (Sx.advT l x))
  have BV := below_set6 (g := w.heap.size + 1) B3 (by omega) (.int .i64 o) (.int .i64 l) (.int .i64 m) (.slice A2 (Sx.stepP l m ps b t x).length c2) (.int .i64 b) (.int .i64 (Sx.advT l x))
  have OV := O3.only (only6 w3 (w.heap.size + 1) (.int .i64 o) (.int .i64 l) (.int .i64 m) (.slice A2 (Sx.stepP l m ps b t x).length c2) (.int .i64 b) (.int .i64 (Sx.advT l x))) R3 (by decide)
  have q0 := q.cell 0
  have q1 := q.cell 1
  have q2 := q.cell 2
  have q3 := q.cell 3
  have q4 := q.cell 4
  have q5 := q.cell 5
  exact bodyPost_ret (v := .tuple #[kv o l m A2 (Sx.stepP l m ps b t x).length c2 b (Sx.advT l x), .bool true]) (by simp [results, Try.results15, go_sem, q0, q1, q2, q3, q4, q5]) rfl ⟨A2, c2, by rw [HA.out]; rfl, by rw [HA.out]; exact OwnP.mono OV s1, by rw [HA.out]; exact hc2, BV⟩

set_option maxRecDepth 100000 in
set_option maxHeartbeats 2000000 in
theorem aftS_word (o l m : Int) (A : Option Addr) (c : Nat) (b t x : Int) (ps : List (Int × Int)) (w : World) (hr : PR w w.heap.size A ps) (hz : ps.length ≤ 1048576) (hcap : ps.length ≤ c) (hk : Sx.kOK o l m ps b t = true) (hx : x ≠ Sx.two l) (hf : Sx.canB l m ps.length t x = true) (hg : Sx.goB l m ps.length t x = true) :
    Calls Try.prog 15 #[kv o l m A ps.length c b t, .int .i64 x] w fun e w' => ∃ A' c', e = .returned (.tuple #[kv (Sx.ifA (Sx.aftOK o l m ps b t x) o) (Sx.ifA (Sx.aftOK o l m ps b t x) l) (Sx.ifA (Sx.aftOK o l m ps b t x) m) A' (Sx.ifP (Sx.aftOK o l m ps b t x) (Sx.stepP l m ps b t x)).length c' (Sx.ifA (Sx.aftOK o l m ps b t x) b) (Sx.ifA (Sx.aftOK o l m ps b t x) (Sx.advT l x)), .bool (Sx.aftOK o l m ps b t x)]) ∧ OwnP w' w.heap.size A' (Sx.ifP (Sx.aftOK o l m ps b t x) (Sx.stepP l m ps b t x)) ∧ (Sx.ifP (Sx.aftOK o l m ps b t x) (Sx.stepP l m ps b t x)).length ≤ c' ∧ Below w.heap.size w w' := by
  have B0 : Below w.heap.size w ((w.alloc (.cells #[.int .i64 o, .int .i64 l, .int .i64 m, .slice A ps.length c, .int .i64 b, .int .i64 t] 31)).alloc (.cells #[.int .i64 0, .int .i64 0, .int .i64 0, .slice none 0 0, .int .i64 0, .int .i64 0] 31)) := ((Below.refl _ _).alloc (Nat.le_refl _) _).alloc (by simp) _
  have K0 := (Blk.new w 31 #[.int .i64 o, .int .i64 l, .int .i64 m, .slice A ps.length c, .int .i64 b, .int .i64 t]).alloc (.cells #[.int .i64 0, .int .i64 0, .int .i64 0, .slice none 0 0, .int .i64 0, .int .i64 0] 31)
  have R0 := blk_new2 w (.cells #[.int .i64 o, .int .i64 l, .int .i64 m, .slice A ps.length c, .int .i64 b, .int .i64 t] 31) 31 #[.int .i64 0, .int .i64 0, .int .i64 0, .slice none 0 0, .int .i64 0, .int .i64 0]
  have a0 : ((w.alloc (.cells #[.int .i64 o, .int .i64 l, .int .i64 m, .slice A ps.length c, .int .i64 b, .int .i64 t] 31)).alloc (.cells #[.int .i64 0, .int .i64 0, .int .i64 0, .slice none 0 0, .int .i64 0, .int .i64 0] 31)).cell? ⟨w.heap.size, 0, none⟩ = some (.int .i64 o) := K0.cell 0
  have a1 : ((w.alloc (.cells #[.int .i64 o, .int .i64 l, .int .i64 m, .slice A ps.length c, .int .i64 b, .int .i64 t] 31)).alloc (.cells #[.int .i64 0, .int .i64 0, .int .i64 0, .slice none 0 0, .int .i64 0, .int .i64 0] 31)).cell? ⟨w.heap.size, 1, none⟩ = some (.int .i64 l) := K0.cell 1
  have a2 : ((w.alloc (.cells #[.int .i64 o, .int .i64 l, .int .i64 m, .slice A ps.length c, .int .i64 b, .int .i64 t] 31)).alloc (.cells #[.int .i64 0, .int .i64 0, .int .i64 0, .slice none 0 0, .int .i64 0, .int .i64 0] 31)).cell? ⟨w.heap.size, 2, none⟩ = some (.int .i64 m) := K0.cell 2
  have a3 : ((w.alloc (.cells #[.int .i64 o, .int .i64 l, .int .i64 m, .slice A ps.length c, .int .i64 b, .int .i64 t] 31)).alloc (.cells #[.int .i64 0, .int .i64 0, .int .i64 0, .slice none 0 0, .int .i64 0, .int .i64 0] 31)).cell? ⟨w.heap.size, 3, none⟩ = some (.slice A ps.length c) := K0.cell 3
  have a4 : ((w.alloc (.cells #[.int .i64 o, .int .i64 l, .int .i64 m, .slice A ps.length c, .int .i64 b, .int .i64 t] 31)).alloc (.cells #[.int .i64 0, .int .i64 0, .int .i64 0, .slice none 0 0, .int .i64 0, .int .i64 0] 31)).cell? ⟨w.heap.size, 4, none⟩ = some (.int .i64 b) := K0.cell 4
  have a5 : ((w.alloc (.cells #[.int .i64 o, .int .i64 l, .int .i64 m, .slice A ps.length c, .int .i64 b, .int .i64 t] 31)).alloc (.cells #[.int .i64 0, .int .i64 0, .int .i64 0, .slice none 0 0, .int .i64 0, .int .i64 0] 31)).cell? ⟨w.heap.size, 5, none⟩ = some (.int .i64 t) := K0.cell 5
  have CV := spec_KnownValid o l m A c b t ps ((w.alloc (.cells #[.int .i64 o, .int .i64 l, .int .i64 m, .slice A ps.length c, .int .i64 b, .int .i64 t] 31)).alloc (.cells #[.int .i64 0, .int .i64 0, .int .i64 0, .slice none 0 0, .int .i64 0, .int .i64 0] 31)) (hr.keep B0.size B0) hz
  rw [hk] at CV
  have CV := hide CV
  obtain ⟨hl0, hl1, hm0, hm1, hn1, ht1⟩ := Sx.kOK_nums hk
  have CC := hide (fun wx => spec_l1Clear o l m wx (by omega) (by omega))
  have CL := hide (fun w2 (hb : Below w.heap.size w w2) => spec_l2Step o l m A c b t x ps w2 (hr.keep hb.size hb) hcap hk hg)
  have CF := hide (fun wx => spec_l2Follows o l m A c b t x ps wx hl0 hl1 (by omega) hm1 hn1)
  rw [hf] at CF
  have HA := hide (Sx.aft_yes hk (.inr hf))
  have ec : (x != Sx.two l) = true := by rw [bne_iff_ne]; exact hx
  clear hk hx hf hg
  go_enter Try.func15, Try.ntmps15
  go_wp2_with fail
  refine (unhide CV).mono ?_; rintro e w1 ⟨rfl, hb1⟩
  have B1 := below_next (Nat.le_refl _) B0 hb1
  have K1 := K0.below hb1 K0.lt
  have R1 := R0.below hb1 R0.lt
  clear B0 K0 R0 hb1 a0 a1 a2 a3 a4 a5
  have a0 : w1.cell? ⟨w.heap.size, 0, none⟩ = some (.int .i64 o) := K1.cell 0
  have a1 : w1.cell? ⟨w.heap.size, 1, none⟩ = some (.int .i64 l) := K1.cell 1
  have a2 : w1.cell? ⟨w.heap.size, 2, none⟩ = some (.int .i64 m) := K1.cell 2
  have a3 : w1.cell? ⟨w.heap.size, 3, none⟩ = some (.slice A ps.length c) := K1.cell 3
  have a4 : w1.cell? ⟨w.heap.size, 4, none⟩ = some (.int .i64 b) := K1.cell 4
  have a5 : w1.cell? ⟨w.heap.size, 5, none⟩ = some (.int .i64 t) := K1.cell 5
  go_wp2_with fail
  refine ((unhide CC) _).mono ?_; rintro e w2 ⟨rfl, hb2⟩
  have B2 := below_next (Nat.le_refl _) B1 hb2
  have K2 := K1.below hb2 K1.lt
  have R2 := R1.below hb2 R1.lt
  clear B1 K1 R1 hb2 a0 a1 a2 a3 a4 a5
  have a0 : w2.cell? ⟨w.heap.size, 0, none⟩ = some (.int .i64 o) := K2.cell 0
  have a1 : w2.cell? ⟨w.heap.size, 1, none⟩ = some (.int .i64 l) := K2.cell 1
  have a2 : w2.cell? ⟨w.heap.size, 2, none⟩ = some (.int .i64 m) := K2.cell 2
  have a3 : w2.cell? ⟨w.heap.size, 3, none⟩ = some (.slice A ps.length c) := K2.cell 3
  have a4 : w2.cell? ⟨w.heap.size, 4, none⟩ = some (.int .i64 b) := K2.cell 4
  have a5 : w2.cell? ⟨w.heap.size, 5, none⟩ = some (.int .i64 t) := K2.cell 5
  go_wp2_with fail
  refine ((unhide CF) _).mono ?_; rintro e w3 ⟨rfl, hb3⟩
  have B3 := below_next (Nat.le_refl _) B2 hb3
  have K3 := K2.below hb3 K2.lt
  have R3 := R2.below hb3 R2.lt
  clear B2 K2 R2 hb3 a0 a1 a2 a3 a4 a5
  have a0 : w3.cell? ⟨w.heap.size, 0, none⟩ = some (.int .i64 o) := K3.cell 0
  have a1 : w3.cell? ⟨w.heap.size, 1, none⟩ = some (.int .i64 l) := K3.cell 1
  have a2 : w3.cell? ⟨w.heap.size, 2, none⟩ = some (.int .i64 m) := K3.cell 2
  have a3 : w3.cell? ⟨w.heap.size, 3, none⟩ = some (.slice A ps.length c) := K3.cell 3
  have a4 : w3.cell? ⟨w.heap.size, 4, none⟩ = some (.int .i64 b) := K3.cell 4
  have a5 : w3.cell? ⟨w.heap.size, 5, none⟩ = some (.int .i64 t) := K3.cell 5
  go_wp2_with fail
  refine ((unhide CL) _ B3).mono ?_; rintro e w4 ⟨A2, c2, rfl, O4, hc2, hb4⟩
  have s1 := B3.size
  have B4 := below_next (Nat.le_refl _) B3 hb4
  have K4 := K3.below hb4 K3.lt
  have R4 := R3.below hb4 R3.lt
  clear B3 K3 R3 hb4 a0 a1 a2 a3 a4 a5
  have a0 : w4.cell? ⟨w.heap.size, 0, none⟩ = some (.int .i64 o) := K4.cell 0
  have a1 : w4.cell? ⟨w.heap.size, 1, none⟩ = some (.int .i64 l) := K4.cell 1
  have a2 : w4.cell? ⟨w.heap.size, 2, none⟩ = some (.int .i64 m) := K4.cell 2
  have a3 : w4.cell? ⟨w.heap.size, 3, none⟩ = some (.slice A ps.length c) := K4.cell 3
  have a4 : w4.cell? ⟨w.heap.size, 4, none⟩ = some (.int .i64 b) := K4.cell 4
  have a5 : w4.cell? ⟨w.heap.size, 5, none⟩ = some (.int .i64 t) := K4.cell 5
  have r0 : w4.cell? ⟨(w.heap.size + 1), 0, none⟩ = some (.int .i64 0) := R4.cell 0
  have r1 : w4.cell? ⟨(w.heap.size + 1), 1, none⟩ = some (.int .i64 0) := R4.cell 1
  have r2 : w4.cell? ⟨(w.heap.size + 1), 2, none⟩ = some (.int .i64 0) := R4.cell 2
  have r3 : w4.cell? ⟨(w.heap.size + 1), 3, none⟩ = some (.slice none 0 0) := R4.cell 3
  have r4 : w4.cell? ⟨(w.heap.size + 1), 4, none⟩ = some (.int .i64 0) := R4.cell 4
  have r5 : w4.cell? ⟨(w.heap.size + 1), 5, none⟩ = some (.int .i64 0) := R4.cell 5
  have fr0 := R4.frozen 0
  have fr1 := R4.frozen 1
  have fr2 := R4.frozen 2
  have fr3 := R4.frozen 3
  have fr4 := R4.frozen 4
  have fr5 := R4.frozen 5
  go_wp2_with fail
  have q := blk6_set R4 (.int .i64 o) (.int .i64 l) (.int .i64 m) (.slice A2 (Sx.stepP l m ps b t x).length c2) (.int .i64 b) (.int .i64 (Sx.advT l x))
  have BV := below_set6 (g := w.heap.size + 1) B4 (by omega) (.int .i64 o) (.int .i64 l) (.int .i64 m) (.slice A2 (Sx.stepP l m ps b t x).length c2) (.int .i64 b) (.int .i64 (Sx.advT l x))
  have OV := O4.only (only6 w4 (w.heap.size + 1) (.int .i64 o) (.int .i64 l) (.int .i64 m) (.slice A2 (Sx.stepP l m ps b t x).length c2) (.int .i64 b) (.int .i64 (Sx.advT l x))) R4 (by decide)
  have q0 := q.cell 0
  have q1 := q.cell 1
  have q2 := q.cell 2
  have q3 := q.cell 3
  have q4 := q.cell 4
  have q5 := q.cell 5
  exact bodyPost_ret (v := .tuple #[kv o l m A2 (Sx.stepP l m ps b t x).length c2 b (Sx.advT l x), .bool true]) (by simp [results, Try.results15, go_sem, q0, q1, q2, q3, q4, q5]) rfl ⟨A2, c2, by rw [HA.out]; rfl, by rw [HA.out]; exact OwnP.mono OV s1, by rw [HA.out]; exact hc2, BV⟩

set_option maxRecDepth 100000 in
set_option maxHeartbeats 2000000 in
theorem spec_After (o l m : Int) (A : Option Addr) (c : Nat) (b t x : Int) (ps : List (Int × Int)) (w : World) (hr : PR w w.heap.size A ps) (hz : ps.length ≤ 1048576) (hcap : ps.length ≤ c) :
    Calls Try.prog 15 #[kv o l m A ps.length c b t, .int .i64 x] w fun e w' => ∃ A' c', e = .returned (.tuple #[kv (Sx.ifA (Sx.aftOK o l m ps b t x) o) (Sx.ifA (Sx.aftOK o l m ps b t x) l) (Sx.ifA (Sx.aftOK o l m ps b t x) m) A' (Sx.ifP (Sx.aftOK o l m ps b t x) (Sx.stepP l m ps b t x)).length c' (Sx.ifA (Sx.aftOK o l m ps b t x) b) (Sx.ifA (Sx.aftOK o l m ps b t x) (Sx.advT l x)), .bool (Sx.aftOK o l m ps b t x)]) ∧ OwnP w' w.heap.size A' (Sx.ifP (Sx.aftOK o l m ps b t x) (Sx.stepP l m ps b t x)) ∧ (Sx.ifP (Sx.aftOK o l m ps b t x) (Sx.stepP l m ps b t x)).length ≤ c' ∧ Below w.heap.size w w' := by
  by_cases hk : Sx.kOK o l m ps b t = true
  · by_cases hx : x = Sx.two l
    · exact aftS_clear o l m A c b t x ps w hr hz hcap hk hx (by simp [Sx.goB, hx])
    · by_cases hf : Sx.canB l m ps.length t x = true
      · exact aftS_word o l m A c b t x ps w hr hz hcap hk hx hf (by simp [Sx.goB, hf])
      · exact aftS_far o l m A c b t x ps w hr hz hcap hk hx (by simpa using hf)
  · exact aftS_bad o l m A c b t x ps w hr hz hcap (by simpa using hk)

end Go.Proofs.Ytegfcpdkehgdpaa

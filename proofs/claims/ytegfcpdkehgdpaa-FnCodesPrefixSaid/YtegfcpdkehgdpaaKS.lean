/- The walks of Start and its exact law. Conditions: each field is an int. -/
import Derived.Test.YtegfcpdkehgdpaaKP
namespace Go.Proofs.Ytegfcpdkehgdpaa
open Go.RowKit

/-- What Start returns. -/
def startV (o l m : Int) : Value := if Sx.setOK o l m = true then kv o l m none 0 0 0 (-1) else kv 0 0 0 none 0 0 0 0
theorem start_yes {o l m : Int} (h : Sx.setOK o l m = true) : startV o l m = kv o l m none 0 0 0 (-1) := if_pos h
theorem start_no {o l m : Int} (h : Sx.setOK o l m = false) : startV o l m = kv 0 0 0 none 0 0 0 0 := if_neg (by simp [h])

set_option maxRecDepth 100000 in
set_option maxHeartbeats 2000000 in
theorem spec_Start (o l m : Int) (w : World) :
    Calls Try.prog 37 #[sv o l m] w fun e w' => e = .returned (.tuple #[startV o l m, .bool (Sx.setOK o l m)]) ∧ Below w.heap.size w w' := by
  have B0 : Below w.heap.size w ((w.alloc (.cells #[.int .i64 o, .int .i64 l, .int .i64 m] 28)).alloc (.cells #[.int .i64 0, .int .i64 0, .int .i64 0, .slice none 0 0, .int .i64 0, .int .i64 0] 31)) := ((Below.refl _ _).alloc (Nat.le_refl _) _).alloc (by simp) _
  have S0 := (Blk.new w 28 #[.int .i64 o, .int .i64 l, .int .i64 m]).alloc (.cells #[.int .i64 0, .int .i64 0, .int .i64 0, .slice none 0 0, .int .i64 0, .int .i64 0] 31)
  have R0 := blk_new2 w (.cells #[.int .i64 o, .int .i64 l, .int .i64 m] 28) 31 #[.int .i64 0, .int .i64 0, .int .i64 0, .slice none 0 0, .int .i64 0, .int .i64 0]
  have CV := spec_SettingValid o l m ((w.alloc (.cells #[.int .i64 o, .int .i64 l, .int .i64 m] 28)).alloc (.cells #[.int .i64 0, .int .i64 0, .int .i64 0, .slice none 0 0, .int .i64 0, .int .i64 0] 31))
  cases hk : Sx.setOK o l m
  all_goals
    rw [hk] at CV
    have CV := hide CV
    have HR := hide hk
    clear hk
    go_enter Try.func37, Try.ntmps37
    go_wp2_with fail
    refine (unhide CV).mono ?_; rintro e w1 ⟨rfl, hb1⟩
    have B1 := below_next (Nat.le_refl _) B0 hb1
    have S1 := S0.below hb1 S0.lt
    have R1 := R0.below hb1 R0.lt
    clear B0 S0 R0 CV hb1
    have a0 : w1.cell? ⟨w.heap.size, 0, none⟩ = some (.int .i64 o) := S1.cell 0
    have a1 : w1.cell? ⟨w.heap.size, 1, none⟩ = some (.int .i64 l) := S1.cell 1
    have a2 : w1.cell? ⟨w.heap.size, 2, none⟩ = some (.int .i64 m) := S1.cell 2
    have c0 : w1.cell? ⟨w.heap.size + 1, 0, none⟩ = some (.int .i64 0) := R1.cell 0
    have c1 : w1.cell? ⟨w.heap.size + 1, 1, none⟩ = some (.int .i64 0) := R1.cell 1
    have c2 : w1.cell? ⟨w.heap.size + 1, 2, none⟩ = some (.int .i64 0) := R1.cell 2
    have c3 : w1.cell? ⟨w.heap.size + 1, 3, none⟩ = some (.slice none 0 0) := R1.cell 3
    have c4 : w1.cell? ⟨w.heap.size + 1, 4, none⟩ = some (.int .i64 0) := R1.cell 4
    have c5 : w1.cell? ⟨w.heap.size + 1, 5, none⟩ = some (.int .i64 0) := R1.cell 5
    have f0 := R1.frozen 0
    have f1 := R1.frozen 1
    have f2 := R1.frozen 2
    have f3 := R1.frozen 3
    have f4 := R1.frozen 4
    have f5 := R1.frozen 5
    go_wp2_with fail
  · have q := blk6_set R1 (.int .i64 0) (.int .i64 0) (.int .i64 0) (.slice none 0 0) (.int .i64 0) (.int .i64 0)
    have q0 := q.cell 0
    have q1 := q.cell 1
    have q2 := q.cell 2
    have q3 := q.cell 3
    have q4 := q.cell 4
    have q5 := q.cell 5
    exact bodyPost_ret (v := .tuple #[kv 0 0 0 none 0 0 0 0, .bool false]) (by simp [results, Try.results37, go_sem, q0, q1, q2, q3, q4, q5]) rfl ⟨by rw [start_no HR.out], belowSet (belowSet (belowSet (belowSet (belowSet (belowSet B1 (by omega) _) (by omega) _) (by omega) _) (by omega) _) (by omega) _) (by omega) _⟩
  · have q := blk6_set R1 (.int .i64 o) (.int .i64 l) (.int .i64 m) (.slice none 0 0) (.int .i64 0) (.int .i64 (-1))
    have q0 := q.cell 0
    have q1 := q.cell 1
    have q2 := q.cell 2
    have q3 := q.cell 3
    have q4 := q.cell 4
    have q5 := q.cell 5
    exact bodyPost_ret (v := .tuple #[kv o l m none 0 0 0 (-1), .bool true]) (by simp [results, Try.results37, go_sem, q0, q1, q2, q3, q4, q5]) rfl ⟨by rw [start_yes HR.out], belowSet (belowSet (belowSet (belowSet (belowSet (belowSet B1 (by omega) _) (by omega) _) (by omega) _) (by omega) _) (by omega) _) (by omega) _⟩

end Go.Proofs.Ytegfcpdkehgdpaa

/- The walk of the exact law on WordOf. Conditions: the pairs' cells lie below the call's own memory. -/
import Derived.Test.YtflabakeiecfiaaKLaw
import Derived.Test.YtflabakeiecfiaaW3
namespace Go.Proofs.Ytflabakeiecfiaa
open Go.RowKit

set_option maxRecDepth 100000 in
set_option maxHeartbeats 4000000 in
theorem law_FnExactWordOf (o l m : Int) (A : Option Addr) (c : Nat) (b t : Int) (ps : List (Int × Int)) (x : Int) (_ : -9223372036854775808 ≤ x) (_ : x ≤ 9223372036854775807) (w : World) (hr : PR w w.heap.size A ps) (hz : ps.length ≤ maxLen) :
    Calls Try.prog 8 #[kv o l m A ps.length c b t, .int .i64 x] w fun e w' => e = .returned (.bool true) ∧ Below w.heap.size w w' := by
  unfold maxLen at hz
  have CS := laws_szKnown o l m A ps.length c b t (w.alloc (.cells #[.int .i64 o, .int .i64 l, .int .i64 m, .slice A ps.length c, .int .i64 b, .int .i64 t] 26)) (by omega)
  by_cases hn : ps.length ≤ 1048576
  · rw [if_pos hn] at CS
    have CS := hide CS
    have B0 : Below w.heap.size w (w.alloc (.cells #[.int .i64 o, .int .i64 l, .int .i64 m, .slice A ps.length c, .int .i64 b, .int .i64 t] 26)) := (Below.refl _ _).alloc (Nat.le_refl _) _
    have L0 := Blk.new w 26 #[.int .i64 o, .int .i64 l, .int .i64 m, .slice A ps.length c, .int .i64 b, .int .i64 t]
    go_enter Try.func8, Try.ntmps8
    go_wp2_with fail
    refine (unhide CS).mono ?_; rintro e w1 ⟨rfl, hb1⟩
    have B1 := below_next (Nat.le_refl _) B0 hb1
    have L1 := L0.below hb1 L0.lt
    clear B0 L0 hb1 CS
    have a0 : w1.cell? ⟨w.heap.size, 0, none⟩ = some (.int .i64 o) := L1.cell 0
    have a1 : w1.cell? ⟨w.heap.size, 1, none⟩ = some (.int .i64 l) := L1.cell 1
    have a2 : w1.cell? ⟨w.heap.size, 2, none⟩ = some (.int .i64 m) := L1.cell 2
    have a3 : w1.cell? ⟨w.heap.size, 3, none⟩ = some (.slice A ps.length c) := L1.cell 3
    have a4 : w1.cell? ⟨w.heap.size, 4, none⟩ = some (.int .i64 b) := L1.cell 4
    have a5 : w1.cell? ⟨w.heap.size, 5, none⟩ = some (.int .i64 t) := L1.cell 5
    have C2 := hide (laws_toKnown o l m A c b t ps w1 (hr.keep B1.size B1) hn)
    go_wp2_with fail
    refine (unhide C2).mono ?_; rintro e w2 ⟨g2, rfl, hg2, hP2, hb2⟩
    have B2 := below_next (Nat.le_refl _) B1 hb2
    have L2 := L1.below hb2 L1.lt
    have C3 := hide (spec_WordOf o l m (some ⟨g2, 0, none⟩) ps.length b t x ps w2 (PR.of_blk hP2 hP2.lt) hn)
    clear B1 L1 hb2 C2 hP2 hg2 a0 a1 a2 a3 a4 a5
    go_wp2_with fail
    refine (unhide C3).mono ?_; rintro e w3 ⟨rfl, hb3⟩
    have B3 := below_next (Nat.le_refl _) B2 hb3
    have L3 := L2.below hb3 L2.lt
    clear B2 L2 hb3 C3
    have a0 : w3.cell? ⟨w.heap.size, 0, none⟩ = some (.int .i64 o) := L3.cell 0
    have a1 : w3.cell? ⟨w.heap.size, 1, none⟩ = some (.int .i64 l) := L3.cell 1
    have a2 : w3.cell? ⟨w.heap.size, 2, none⟩ = some (.int .i64 m) := L3.cell 2
    have a3 : w3.cell? ⟨w.heap.size, 3, none⟩ = some (.slice A ps.length c) := L3.cell 3
    have a4 : w3.cell? ⟨w.heap.size, 4, none⟩ = some (.int .i64 b) := L3.cell 4
    have a5 : w3.cell? ⟨w.heap.size, 5, none⟩ = some (.int .i64 t) := L3.cell 5
    have C4 := hide (laws_toKnown o l m A c b t ps w3 (hr.keep B3.size B3) hn)
    go_wp2_with fail
    refine (unhide C4).mono ?_; rintro e w4 ⟨g, rfl, hg, hP, hb4⟩
    have B4 := (below_next (Nat.le_refl _) B3 hb4).alloc (below_next (Nat.le_refl _) B3 hb4).size (.cells #[.int .i64 o, .int .i64 l, .int .i64 m, .slice (some ⟨g, 0, none⟩) ps.length ps.length, .int .i64 b, .int .i64 t] 32)
    have L4 := (L3.below hb4 L3.lt).alloc (.cells #[.int .i64 o, .int .i64 l, .int .i64 m, .slice (some ⟨g, 0, none⟩) ps.length ps.length, .int .i64 b, .int .i64 t] 32)
    have X4 := Blk.new w4 32 #[.int .i64 o, .int .i64 l, .int .i64 m, .slice (some ⟨g, 0, none⟩) ps.length ps.length, .int .i64 b, .int .i64 t]
    have P4 := hP.alloc (.cells #[.int .i64 o, .int .i64 l, .int .i64 m, .slice (some ⟨g, 0, none⟩) ps.length ps.length, .int .i64 b, .int .i64 t] 32)
    have C5 := hide (impl_WordOf o l m (some ⟨g, 0, none⟩) ps.length b t x ps (w4.alloc (.cells #[.int .i64 o, .int .i64 l, .int .i64 m, .slice (some ⟨g, 0, none⟩) ps.length ps.length, .int .i64 b, .int .i64 t] 32)) (PR.of_blk P4 P4.lt) hn)
    clear B3 L3 hb4 C4 hP a0 a1 a2 a3 a4 a5
    go_wp2_with fail
    refine (unhide C5).mono ?_; rintro e w5 ⟨rfl, hb5⟩
    have s5 : Below w.heap.size w w5 ∧ w5.cell? ⟨w.heap.size, 0, none⟩ = some (.int .i64 o) ∧ w5.cell? ⟨w.heap.size, 1, none⟩ = some (.int .i64 l) ∧ w5.cell? ⟨w.heap.size, 2, none⟩ = some (.int .i64 m) ∧ w5.cell? ⟨w.heap.size, 3, none⟩ = some (.slice A ps.length c) ∧ w5.cell? ⟨w.heap.size, 4, none⟩ = some (.int .i64 b) ∧ w5.cell? ⟨w.heap.size, 5, none⟩ = some (.int .i64 t) ∧ w5.cell? ⟨w4.heap.size, 0, none⟩ = some (.int .i64 o) ∧ w5.cell? ⟨w4.heap.size, 1, none⟩ = some (.int .i64 l) ∧ w5.cell? ⟨w4.heap.size, 2, none⟩ = some (.int .i64 m) ∧ w5.cell? ⟨w4.heap.size, 3, none⟩ = some (.slice (some ⟨g, 0, none⟩) ps.length ps.length) ∧ w5.cell? ⟨w4.heap.size, 4, none⟩ = some (.int .i64 b) ∧ w5.cell? ⟨w4.heap.size, 5, none⟩ = some (.int .i64 t) ∧ Blk w5 g 61 (pcells ps) := keepL hb5 ⟨B4, L4.cell 0, L4.cell 1, L4.cell 2, L4.cell 3, L4.cell 4, L4.cell 5, X4.cell 0, X4.cell 1, X4.cell 2, X4.cell 3, X4.cell 4, X4.cell 5, P4⟩
    have s0 : Below w.heap.size w w5.drew ∧ w5.drew.cell? ⟨w.heap.size, 0, none⟩ = some (.int .i64 o) ∧ w5.drew.cell? ⟨w.heap.size, 1, none⟩ = some (.int .i64 l) ∧ w5.drew.cell? ⟨w.heap.size, 2, none⟩ = some (.int .i64 m) ∧ w5.drew.cell? ⟨w.heap.size, 3, none⟩ = some (.slice A ps.length c) ∧ w5.drew.cell? ⟨w.heap.size, 4, none⟩ = some (.int .i64 b) ∧ w5.drew.cell? ⟨w.heap.size, 5, none⟩ = some (.int .i64 t) ∧ w5.drew.cell? ⟨w4.heap.size, 0, none⟩ = some (.int .i64 o) ∧ w5.drew.cell? ⟨w4.heap.size, 1, none⟩ = some (.int .i64 l) ∧ w5.drew.cell? ⟨w4.heap.size, 2, none⟩ = some (.int .i64 m) ∧ w5.drew.cell? ⟨w4.heap.size, 3, none⟩ = some (.slice (some ⟨g, 0, none⟩) ps.length ps.length) ∧ w5.drew.cell? ⟨w4.heap.size, 4, none⟩ = some (.int .i64 b) ∧ w5.drew.cell? ⟨w4.heap.size, 5, none⟩ = some (.int .i64 t) ∧ Blk w5.drew g 61 (pcells ps) := ⟨s5.1.drew, s5.2⟩
    clear B4 L4 X4 P4 C5 hb5 hg s5
    go_wp2_with fail
    refine wp_region_held_drew (S := (fun W => Below w.heap.size w W ∧ W.cell? ⟨w.heap.size, 0, none⟩ = some (.int .i64 o) ∧ W.cell? ⟨w.heap.size, 1, none⟩ = some (.int .i64 l) ∧ W.cell? ⟨w.heap.size, 2, none⟩ = some (.int .i64 m) ∧ W.cell? ⟨w.heap.size, 3, none⟩ = some (.slice A ps.length c) ∧ W.cell? ⟨w.heap.size, 4, none⟩ = some (.int .i64 b) ∧ W.cell? ⟨w.heap.size, 5, none⟩ = some (.int .i64 t) ∧ W.cell? ⟨w4.heap.size, 0, none⟩ = some (.int .i64 o) ∧ W.cell? ⟨w4.heap.size, 1, none⟩ = some (.int .i64 l) ∧ W.cell? ⟨w4.heap.size, 2, none⟩ = some (.int .i64 m) ∧ W.cell? ⟨w4.heap.size, 3, none⟩ = some (.slice (some ⟨g, 0, none⟩) ps.length ps.length) ∧ W.cell? ⟨w4.heap.size, 4, none⟩ = some (.int .i64 b) ∧ W.cell? ⟨w4.heap.size, 5, none⟩ = some (.int .i64 t) ∧ Blk W g 61 (pcells ps))) (by kernel_rfl) (by first | assumption | exact s0 | exact keepL (by assumption) (by assumption)) (fun hHeld => ?_)
    refine wpAnyH_take (i := 0) (oi := { dst := some 39, op := Op.load 32 (Operand.tmp 8), type := 32, pos := "exact.go:1428", after := #[], guard := none }) (v := ?_) rfl (by kernel_rfl) (by kernel_rfl) (by kernel_rfl) (fun _ _ _ h => h) (Or.inl ⟨by rfl, ?_⟩) (by assumption) ?_; rotate_left
    · intro W hW; (try dsimp only at hW); go_simp;  try (with_reducible rfl)
    try simp only [Act.put, List.setIfInBounds_toArray, List.set_cons_zero, List.set_cons_succ]
    refine wpAnyH_take (i := 1) (oi := { dst := some 40, op := Op.load 26 (Operand.tmp 2), type := 26, pos := "exact.go:1428", after := #[], guard := none }) (v := ?_) rfl (by kernel_rfl) (by kernel_rfl) (by kernel_rfl) (fun _ _ _ h => h) (Or.inl ⟨by rfl, ?_⟩) (by assumption) ?_; rotate_left
    · intro W hW; (try dsimp only at hW); go_simp;  try (with_reducible rfl)
    try simp only [Act.put, List.setIfInBounds_toArray, List.set_cons_zero, List.set_cons_succ]
    refine wpAnyH_ready (rs := [2]) (by kernel_rfl) (by simp) (AllReadyH.cons (i := 2) (o := { dst := some 41, op := Op.call { callee := Callee.value (Operand.func 16), args := #[Operand.tmp 40], argTypes := #[26] }, type := 32, pos := "exact.go:1428", after := #[{ on := 1, ground := Ground.data }], guard := none }) rfl (fun K hK => ?_) AllReadyH.nil)
    go_simp
    refine (laws_toKnown o l m A c b t ps _ (hr.keep hHeld.1.size hHeld.1) hn).mono ?_; rintro e w' ⟨g6, rfl, hg6, hP6, hb⟩
    try go_wp2_with fail
    refine hK.out _ _ (by (try dsimp only); first | assumption | exact s0 | exact keepL (by assumption) (by assumption)) (fun hHeld => ?_)
    clear hK K
    try simp only [Act.put, List.setIfInBounds_toArray, List.set_cons_zero, List.set_cons_succ]
    refine wpAnyH_ready (rs := [3]) (by kernel_rfl) (by simp) (AllReadyH.cons (i := 3) (o := { dst := some 42, op := Op.call { callee := Callee.value (Operand.func 18), args := #[Operand.tmp 39, Operand.tmp 41], argTypes := #[32, 32] }, type := 4, pos := "exact.go:1428", after := #[{ on := 0, ground := Ground.data }, { on := 2, ground := Ground.data }, { on := 2, ground := Ground.chain }], guard := none }) rfl (fun K hK => ?_) AllReadyH.nil)
    go_simp
    refine (laws_eqKnown o l m (some ⟨g, 0, none⟩) (some ⟨g6, 0, none⟩) ps.length ps.length b t ps _ (PR.of_blk (hHeld.2.2.2.2.2.2.2.2.2.2.2.2.2) (hHeld.2.2.2.2.2.2.2.2.2.2.2.2.2).lt) (PR.of_blk hP6 hP6.lt) hn).mono ?_; rintro e w7 ⟨rfl, hb7⟩
    try go_wp2_with fail
    refine hK.out _ _ (by (try dsimp only); first | assumption | exact s0 | exact keepL (by assumption) (by assumption)) (fun hHeld => ?_)
    clear hK K
    try simp only [Act.put, List.setIfInBounds_toArray, List.set_cons_zero, List.set_cons_succ]
    refine wpAnyH_take (i := 4) (oi := { dst := some 43, op := Op.unOp UnOp.not 4 (Operand.tmp 42), type := 4, pos := "exact.go:1428", after := #[{ on := 3, ground := Ground.data }], guard := none }) (v := ?_) rfl (by kernel_rfl) (by kernel_rfl) (by kernel_rfl) (fun _ _ _ h => h) (Or.inl ⟨by rfl, ?_⟩) (by assumption) ?_; rotate_left
    · intro W hW; (try dsimp only at hW); go_simp;  try (with_reducible rfl)
    try simp only [Act.put, List.setIfInBounds_toArray, List.set_cons_zero, List.set_cons_succ]
    refine wpAnyH_done (by kernel_rfl) ?_ _
    go_wp2
    go_ret
    exact ⟨rfl, hHeld.1⟩
  · rw [if_neg hn] at CS
    have CS := hide CS
    have B0 : Below w.heap.size w (w.alloc (.cells #[.int .i64 o, .int .i64 l, .int .i64 m, .slice A ps.length c, .int .i64 b, .int .i64 t] 26)) := (Below.refl _ _).alloc (Nat.le_refl _) _
    go_enter Try.func8, Try.ntmps8
    go_wp2_with fail
    refine (unhide CS).mono ?_; rintro e w1 ⟨rfl, hb1⟩
    go_wp2_with fail
    go_ret
    exact ⟨rfl, below_next (Nat.le_refl _) B0 hb1⟩

end Go.Proofs.Ytflabakeiecfiaa

/- The walks of the exact laws on KnownValid, Grows, NextWord, Greatest and Width. Conditions: the pairs' cells lie below the call's own memory. -/
import Derived.Test.YtflabakeiecfiaaKM
import Derived.Test.YtflabakeiecfiaaK5
namespace Go.Proofs.Ytflabakeiecfiaa
open Go.RowKit

theorem keepL {w W w' : World} {p0 p1 p2 p3 p4 p5 p6 p7 p8 p9 p10 p11 : Addr} {v0 v1 v2 v3 v4 v5 v6 v7 v8 v9 v10 v11 : Value} {g : Nat} {ty : TypeId} {cs : Array Value} (hb : Below W.heap.size W w') (h : Below w.heap.size w W ∧ W.cell? p0 = some v0 ∧ W.cell? p1 = some v1 ∧ W.cell? p2 = some v2 ∧ W.cell? p3 = some v3 ∧ W.cell? p4 = some v4 ∧ W.cell? p5 = some v5 ∧ W.cell? p6 = some v6 ∧ W.cell? p7 = some v7 ∧ W.cell? p8 = some v8 ∧ W.cell? p9 = some v9 ∧ W.cell? p10 = some v10 ∧ W.cell? p11 = some v11 ∧ Blk W g ty cs) : Below w.heap.size w w' ∧ w'.cell? p0 = some v0 ∧ w'.cell? p1 = some v1 ∧ w'.cell? p2 = some v2 ∧ w'.cell? p3 = some v3 ∧ w'.cell? p4 = some v4 ∧ w'.cell? p5 = some v5 ∧ w'.cell? p6 = some v6 ∧ w'.cell? p7 = some v7 ∧ w'.cell? p8 = some v8 ∧ w'.cell? p9 = some v9 ∧ w'.cell? p10 = some v10 ∧ w'.cell? p11 = some v11 ∧ Blk w' g ty cs :=
  ⟨below_next (Nat.le_refl _) h.1 hb, cell_keep hb h.2.1, cell_keep hb h.2.2.1, cell_keep hb h.2.2.2.1, cell_keep hb h.2.2.2.2.1, cell_keep hb h.2.2.2.2.2.1, cell_keep hb h.2.2.2.2.2.2.1, cell_keep hb h.2.2.2.2.2.2.2.1, cell_keep hb h.2.2.2.2.2.2.2.2.1, cell_keep hb h.2.2.2.2.2.2.2.2.2.1, cell_keep hb h.2.2.2.2.2.2.2.2.2.2.1, cell_keep hb h.2.2.2.2.2.2.2.2.2.2.2.1, cell_keep hb h.2.2.2.2.2.2.2.2.2.2.2.2.1, h.2.2.2.2.2.2.2.2.2.2.2.2.2.below hb h.2.2.2.2.2.2.2.2.2.2.2.2.2.lt⟩

set_option maxRecDepth 100000 in
set_option maxHeartbeats 4000000 in
theorem law_FnExactKnownValid (o l m : Int) (A : Option Addr) (c : Nat) (b t : Int) (ps : List (Int × Int)) (w : World) (hr : PR w w.heap.size A ps) (hz : ps.length ≤ maxLen) :
    Calls Try.prog 3 #[kv o l m A ps.length c b t] w fun e w' => e = .returned (.bool true) ∧ Below w.heap.size w w' := by
  unfold maxLen at hz
  have CS := laws_szKnown o l m A ps.length c b t (w.alloc (.cells #[.int .i64 o, .int .i64 l, .int .i64 m, .slice A ps.length c, .int .i64 b, .int .i64 t] 26)) (by omega)
  by_cases hn : ps.length ≤ 1048576
  · rw [if_pos hn] at CS
    have CS := hide CS
    have B0 : Below w.heap.size w (w.alloc (.cells #[.int .i64 o, .int .i64 l, .int .i64 m, .slice A ps.length c, .int .i64 b, .int .i64 t] 26)) := (Below.refl _ _).alloc (Nat.le_refl _) _
    have L0 := Blk.new w 26 #[.int .i64 o, .int .i64 l, .int .i64 m, .slice A ps.length c, .int .i64 b, .int .i64 t]
    go_enter Try.func3, Try.ntmps3
    go_wp2_with fail
    refine (unhide CS).mono ?_; rintro e w1 ⟨rfl, hb1⟩
    have B1 := below_next (Nat.le_refl _) B0 hb1
    have L1 := L0.below hb1 L0.lt
    clear B0 L0 hb1 CS
    have a0 : w1.cell? ⟨w.heap.size, 0, none⟩ = some (.int .i64 o) := L1.cell 0
    have a1 : w1.cell? ⟨w.heap.size, 1, none⟩ = some (.int .i64 l) := L1.cell 1
    have a2 : w1.cell? ⟨w.heap.size, 2, none⟩ = some (.int .i64 m) := L1.cell 2
    have a3 : w1.cell? ⟨w.heap.size, 3, none⟩ = some (.slice A ps.length c) := L1.cell 3
    have a4 : w1.cell? ⟨w.heap.size, 4, none⟩ = some (.int .i64 b) := L1.cell 4
    have a5 : w1.cell? ⟨w.heap.size, 5, none⟩ = some (.int .i64 t) := L1.cell 5
    have C2 := hide (laws_toKnown o l m A c b t ps w1 (hr.keep B1.size B1) hn)
    go_wp2_with fail
    refine (unhide C2).mono ?_; rintro e w2 ⟨g2, rfl, hg2, hP2, hb2⟩
    have B2 := below_next (Nat.le_refl _) B1 hb2
    have L2 := L1.below hb2 L1.lt
    have C3 := hide (spec_KnownValid o l m (some ⟨g2, 0, none⟩) ps.length b t ps w2 (PR.of_blk hP2 hP2.lt) hn)
    clear B1 L1 hb2 C2 hP2 hg2 a0 a1 a2 a3 a4 a5
    go_wp2_with fail
    refine (unhide C3).mono ?_; rintro e w3 ⟨rfl, hb3⟩
    have B3 := below_next (Nat.le_refl _) B2 hb3
    have L3 := L2.below hb3 L2.lt
    clear B2 L2 hb3 C3
    have a0 : w3.cell? ⟨w.heap.size, 0, none⟩ = some (.int .i64 o) := L3.cell 0
    have a1 : w3.cell? ⟨w.heap.size, 1, none⟩ = some (.int .i64 l) := L3.cell 1
    have a2 : w3.cell? ⟨w.heap.size, 2, none⟩ = some (.int .i64 m) := L3.cell 2
    have a3 : w3.cell? ⟨w.heap.size, 3, none⟩ = some (.slice A ps.length c) := L3.cell 3
    have a4 : w3.cell? ⟨w.heap.size, 4, none⟩ = some (.int .i64 b) := L3.cell 4
    have a5 : w3.cell? ⟨w.heap.size, 5, none⟩ = some (.int .i64 t) := L3.cell 5
    have C4 := hide (laws_toKnown o l m A c b t ps w3 (hr.keep B3.size B3) hn)
    go_wp2_with fail
    refine (unhide C4).mono ?_; rintro e w4 ⟨g, rfl, hg, hP, hb4⟩
    have B4 := (below_next (Nat.le_refl _) B3 hb4).alloc (below_next (Nat.le_refl _) B3 hb4).size (.cells #[.int .i64 o, .int .i64 l, .int .i64 m, .slice (some ⟨g, 0, none⟩) ps.length ps.length, .int .i64 b, .int .i64 t] 32)
    have L4 := (L3.below hb4 L3.lt).alloc (.cells #[.int .i64 o, .int .i64 l, .int .i64 m, .slice (some ⟨g, 0, none⟩) ps.length ps.length, .int .i64 b, .int .i64 t] 32)
    have X4 := Blk.new w4 32 #[.int .i64 o, .int .i64 l, .int .i64 m, .slice (some ⟨g, 0, none⟩) ps.length ps.length, .int .i64 b, .int .i64 t]
    have P4 := hP.alloc (.cells #[.int .i64 o, .int .i64 l, .int .i64 m, .slice (some ⟨g, 0, none⟩) ps.length ps.length, .int .i64 b, .int .i64 t] 32)
    have C5 := hide (impl_KnownValid o l m (some ⟨g, 0, none⟩) ps.length b t ps (w4.alloc (.cells #[.int .i64 o, .int .i64 l, .int .i64 m, .slice (some ⟨g, 0, none⟩) ps.length ps.length, .int .i64 b, .int .i64 t] 32)) (PR.of_blk P4 P4.lt) hn)
    clear B3 L3 hb4 C4 hP a0 a1 a2 a3 a4 a5
    go_wp2_with fail
    refine (unhide C5).mono ?_; rintro e w5 ⟨rfl, hb5⟩
    have s5 : Below w.heap.size w w5 ∧ w5.cell? ⟨w.heap.size, 0, none⟩ = some (.int .i64 o) ∧ w5.cell? ⟨w.heap.size, 1, none⟩ = some (.int .i64 l) ∧ w5.cell? ⟨w.heap.size, 2, none⟩ = some (.int .i64 m) ∧ w5.cell? ⟨w.heap.size, 3, none⟩ = some (.slice A ps.length c) ∧ w5.cell? ⟨w.heap.size, 4, none⟩ = some (.int .i64 b) ∧ w5.cell? ⟨w.heap.size, 5, none⟩ = some (.int .i64 t) ∧ w5.cell? ⟨w4.heap.size, 0, none⟩ = some (.int .i64 o) ∧ w5.cell? ⟨w4.heap.size, 1, none⟩ = some (.int .i64 l) ∧ w5.cell? ⟨w4.heap.size, 2, none⟩ = some (.int .i64 m) ∧ w5.cell? ⟨w4.heap.size, 3, none⟩ = some (.slice (some ⟨g, 0, none⟩) ps.length ps.length) ∧ w5.cell? ⟨w4.heap.size, 4, none⟩ = some (.int .i64 b) ∧ w5.cell? ⟨w4.heap.size, 5, none⟩ = some (.int .i64 t) ∧ Blk w5 g 61 (pcells ps) := keepL hb5 ⟨B4, L4.cell 0, L4.cell 1, L4.cell 2, L4.cell 3, L4.cell 4, L4.cell 5, X4.cell 0, X4.cell 1, X4.cell 2, X4.cell 3, X4.cell 4, X4.cell 5, P4⟩
    have s0 : Below w.heap.size w w5.drew ∧ w5.drew.cell? ⟨w.heap.size, 0, none⟩ = some (.int .i64 o) ∧ w5.drew.cell? ⟨w.heap.size, 1, none⟩ = some (.int .i64 l) ∧ w5.drew.cell? ⟨w.heap.size, 2, none⟩ = some (.int .i64 m) ∧ w5.drew.cell? ⟨w.heap.size, 3, none⟩ = some (.slice A ps.length c) ∧ w5.drew.cell? ⟨w.heap.size, 4, none⟩ = some (.int .i64 b) ∧ w5.drew.cell? ⟨w.heap.size, 5, none⟩ = some (.int .i64 t) ∧ w5.drew.cell? ⟨w4.heap.size, 0, none⟩ = some (.int .i64 o) ∧ w5.drew.cell? ⟨w4.heap.size, 1, none⟩ = some (.int .i64 l) ∧ w5.drew.cell? ⟨w4.heap.size, 2, none⟩ = some (.int .i64 m) ∧ w5.drew.cell? ⟨w4.heap.size, 3, none⟩ = some (.slice (some ⟨g, 0, none⟩) ps.length ps.length) ∧ w5.drew.cell? ⟨w4.heap.size, 4, none⟩ = some (.int .i64 b) ∧ w5.drew.cell? ⟨w4.heap.size, 5, none⟩ = some (.int .i64 t) ∧ Blk w5.drew g 61 (pcells ps) := ⟨s5.1.drew, s5.2⟩
    clear B4 L4 X4 P4 C5 hb5 hg s5
    go_wp2_with fail
    refine wp_region_held_drew (S := (fun W => Below w.heap.size w W ∧ W.cell? ⟨w.heap.size, 0, none⟩ = some (.int .i64 o) ∧ W.cell? ⟨w.heap.size, 1, none⟩ = some (.int .i64 l) ∧ W.cell? ⟨w.heap.size, 2, none⟩ = some (.int .i64 m) ∧ W.cell? ⟨w.heap.size, 3, none⟩ = some (.slice A ps.length c) ∧ W.cell? ⟨w.heap.size, 4, none⟩ = some (.int .i64 b) ∧ W.cell? ⟨w.heap.size, 5, none⟩ = some (.int .i64 t) ∧ W.cell? ⟨w4.heap.size, 0, none⟩ = some (.int .i64 o) ∧ W.cell? ⟨w4.heap.size, 1, none⟩ = some (.int .i64 l) ∧ W.cell? ⟨w4.heap.size, 2, none⟩ = some (.int .i64 m) ∧ W.cell? ⟨w4.heap.size, 3, none⟩ = some (.slice (some ⟨g, 0, none⟩) ps.length ps.length) ∧ W.cell? ⟨w4.heap.size, 4, none⟩ = some (.int .i64 b) ∧ W.cell? ⟨w4.heap.size, 5, none⟩ = some (.int .i64 t) ∧ Blk W g 61 (pcells ps))) (by kernel_rfl) (by first | assumption | exact s0 | exact keepL (by assumption) (by assumption)) (fun hHeld => ?_)
    refine wpAnyH_take (i := 0) (oi := { dst := some 22, op := Op.load 32 (Operand.tmp 5), type := 32, pos := "exact.go:1301", after := #[], guard := none }) (v := ?_) rfl (by kernel_rfl) (by kernel_rfl) (by kernel_rfl) (fun _ _ _ h => h) (Or.inl ⟨by rfl, ?_⟩) (by assumption) ?_; rotate_left
    · intro W hW; (try dsimp only at hW); go_simp;  try (with_reducible rfl)
    try simp only [Act.put, List.setIfInBounds_toArray, List.set_cons_zero, List.set_cons_succ]
    refine wpAnyH_take (i := 1) (oi := { dst := some 23, op := Op.load 26 (Operand.tmp 1), type := 26, pos := "exact.go:1301", after := #[], guard := none }) (v := ?_) rfl (by kernel_rfl) (by kernel_rfl) (by kernel_rfl) (fun _ _ _ h => h) (Or.inl ⟨by rfl, ?_⟩) (by assumption) ?_; rotate_left
    · intro W hW; (try dsimp only at hW); go_simp;  try (with_reducible rfl)
    try simp only [Act.put, List.setIfInBounds_toArray, List.set_cons_zero, List.set_cons_succ]
    refine wpAnyH_ready (rs := [2]) (by kernel_rfl) (by simp) (AllReadyH.cons (i := 2) (o := { dst := some 24, op := Op.call { callee := Callee.value (Operand.func 16), args := #[Operand.tmp 23], argTypes := #[26] }, type := 32, pos := "exact.go:1301", after := #[{ on := 1, ground := Ground.data }], guard := none }) rfl (fun K hK => ?_) AllReadyH.nil)
    go_simp
    refine (laws_toKnown o l m A c b t ps _ (hr.keep hHeld.1.size hHeld.1) hn).mono ?_; rintro e w' ⟨g6, rfl, hg6, hP6, hb⟩
    try go_wp2_with fail
    refine hK.out _ _ (by (try dsimp only); first | assumption | exact s0 | exact keepL (by assumption) (by assumption)) (fun hHeld => ?_)
    clear hK K
    try simp only [Act.put, List.setIfInBounds_toArray, List.set_cons_zero, List.set_cons_succ]
    refine wpAnyH_ready (rs := [3]) (by kernel_rfl) (by simp) (AllReadyH.cons (i := 3) (o := { dst := some 25, op := Op.call { callee := Callee.value (Operand.func 18), args := #[Operand.tmp 22, Operand.tmp 24], argTypes := #[32, 32] }, type := 4, pos := "exact.go:1301", after := #[{ on := 0, ground := Ground.data }, { on := 2, ground := Ground.data }, { on := 2, ground := Ground.chain }], guard := none }) rfl (fun K hK => ?_) AllReadyH.nil)
    go_simp
    refine (laws_eqKnown o l m (some ⟨g, 0, none⟩) (some ⟨g6, 0, none⟩) ps.length ps.length b t ps _ (PR.of_blk (hHeld.2.2.2.2.2.2.2.2.2.2.2.2.2) (hHeld.2.2.2.2.2.2.2.2.2.2.2.2.2).lt) (PR.of_blk hP6 hP6.lt) hn).mono ?_; rintro e w7 ⟨rfl, hb7⟩
    try go_wp2_with fail
    refine hK.out _ _ (by (try dsimp only); first | assumption | exact s0 | exact keepL (by assumption) (by assumption)) (fun hHeld => ?_)
    clear hK K
    try simp only [Act.put, List.setIfInBounds_toArray, List.set_cons_zero, List.set_cons_succ]
    refine wpAnyH_take (i := 4) (oi := { dst := some 26, op := Op.unOp UnOp.not 4 (Operand.tmp 25), type := 4, pos := "exact.go:1301", after := #[{ on := 3, ground := Ground.data }], guard := none }) (v := ?_) rfl (by kernel_rfl) (by kernel_rfl) (by kernel_rfl) (fun _ _ _ h => h) (Or.inl ⟨by rfl, ?_⟩) (by assumption) ?_; rotate_left
    · intro W hW; (try dsimp only at hW); go_simp;  try (with_reducible rfl)
    try simp only [Act.put, List.setIfInBounds_toArray, List.set_cons_zero, List.set_cons_succ]
    refine wpAnyH_done (by kernel_rfl) ?_ _
    go_wp2
    go_ret
    exact ⟨rfl, hHeld.1⟩
  · rw [if_neg hn] at CS
    have CS := hide CS
    have B0 : Below w.heap.size w (w.alloc (.cells #[.int .i64 o, .int .i64 l, .int .i64 m, .slice A ps.length c, .int .i64 b, .int .i64 t] 26)) := (Below.refl _ _).alloc (Nat.le_refl _) _
    go_enter Try.func3, Try.ntmps3
    go_wp2_with fail
    refine (unhide CS).mono ?_; rintro e w1 ⟨rfl, hb1⟩
    go_wp2_with fail
    go_ret
    exact ⟨rfl, below_next (Nat.le_refl _) B0 hb1⟩

set_option maxRecDepth 100000 in
set_option maxHeartbeats 4000000 in
theorem law_FnExactGrows (o l m : Int) (A : Option Addr) (c : Nat) (b t : Int) (ps : List (Int × Int)) (w : World) (hr : PR w w.heap.size A ps) (hz : ps.length ≤ maxLen) :
    Calls Try.prog 5 #[kv o l m A ps.length c b t] w fun e w' => e = .returned (.bool true) ∧ Below w.heap.size w w' := by
  unfold maxLen at hz
  have CS := laws_szKnown o l m A ps.length c b t (w.alloc (.cells #[.int .i64 o, .int .i64 l, .int .i64 m, .slice A ps.length c, .int .i64 b, .int .i64 t] 26)) (by omega)
  by_cases hn : ps.length ≤ 1048576
  · rw [if_pos hn] at CS
    have CS := hide CS
    have B0 : Below w.heap.size w (w.alloc (.cells #[.int .i64 o, .int .i64 l, .int .i64 m, .slice A ps.length c, .int .i64 b, .int .i64 t] 26)) := (Below.refl _ _).alloc (Nat.le_refl _) _
    have L0 := Blk.new w 26 #[.int .i64 o, .int .i64 l, .int .i64 m, .slice A ps.length c, .int .i64 b, .int .i64 t]
    go_enter Try.func5, Try.ntmps5
    go_wp2_with fail
    refine (unhide CS).mono ?_; rintro e w1 ⟨rfl, hb1⟩
    have B1 := below_next (Nat.le_refl _) B0 hb1
    have L1 := L0.below hb1 L0.lt
    clear B0 L0 hb1 CS
    have a0 : w1.cell? ⟨w.heap.size, 0, none⟩ = some (.int .i64 o) := L1.cell 0
    have a1 : w1.cell? ⟨w.heap.size, 1, none⟩ = some (.int .i64 l) := L1.cell 1
    have a2 : w1.cell? ⟨w.heap.size, 2, none⟩ = some (.int .i64 m) := L1.cell 2
    have a3 : w1.cell? ⟨w.heap.size, 3, none⟩ = some (.slice A ps.length c) := L1.cell 3
    have a4 : w1.cell? ⟨w.heap.size, 4, none⟩ = some (.int .i64 b) := L1.cell 4
    have a5 : w1.cell? ⟨w.heap.size, 5, none⟩ = some (.int .i64 t) := L1.cell 5
    have C2 := hide (laws_toKnown o l m A c b t ps w1 (hr.keep B1.size B1) hn)
    go_wp2_with fail
    refine (unhide C2).mono ?_; rintro e w2 ⟨g2, rfl, hg2, hP2, hb2⟩
    have B2 := below_next (Nat.le_refl _) B1 hb2
    have L2 := L1.below hb2 L1.lt
    have C3 := hide (spec_Grows o l m (some ⟨g2, 0, none⟩) ps.length b t ps w2 (PR.of_blk hP2 hP2.lt) hn)
    clear B1 L1 hb2 C2 hP2 hg2 a0 a1 a2 a3 a4 a5
    go_wp2_with fail
    refine (unhide C3).mono ?_; rintro e w3 ⟨rfl, hb3⟩
    have B3 := below_next (Nat.le_refl _) B2 hb3
    have L3 := L2.below hb3 L2.lt
    clear B2 L2 hb3 C3
    have a0 : w3.cell? ⟨w.heap.size, 0, none⟩ = some (.int .i64 o) := L3.cell 0
    have a1 : w3.cell? ⟨w.heap.size, 1, none⟩ = some (.int .i64 l) := L3.cell 1
    have a2 : w3.cell? ⟨w.heap.size, 2, none⟩ = some (.int .i64 m) := L3.cell 2
    have a3 : w3.cell? ⟨w.heap.size, 3, none⟩ = some (.slice A ps.length c) := L3.cell 3
    have a4 : w3.cell? ⟨w.heap.size, 4, none⟩ = some (.int .i64 b) := L3.cell 4
    have a5 : w3.cell? ⟨w.heap.size, 5, none⟩ = some (.int .i64 t) := L3.cell 5
    have C4 := hide (laws_toKnown o l m A c b t ps w3 (hr.keep B3.size B3) hn)
    go_wp2_with fail
    refine (unhide C4).mono ?_; rintro e w4 ⟨g, rfl, hg, hP, hb4⟩
    have B4 := (below_next (Nat.le_refl _) B3 hb4).alloc (below_next (Nat.le_refl _) B3 hb4).size (.cells #[.int .i64 o, .int .i64 l, .int .i64 m, .slice (some ⟨g, 0, none⟩) ps.length ps.length, .int .i64 b, .int .i64 t] 32)
    have L4 := (L3.below hb4 L3.lt).alloc (.cells #[.int .i64 o, .int .i64 l, .int .i64 m, .slice (some ⟨g, 0, none⟩) ps.length ps.length, .int .i64 b, .int .i64 t] 32)
    have X4 := Blk.new w4 32 #[.int .i64 o, .int .i64 l, .int .i64 m, .slice (some ⟨g, 0, none⟩) ps.length ps.length, .int .i64 b, .int .i64 t]
    have P4 := hP.alloc (.cells #[.int .i64 o, .int .i64 l, .int .i64 m, .slice (some ⟨g, 0, none⟩) ps.length ps.length, .int .i64 b, .int .i64 t] 32)
    have C5 := hide (impl_Grows o l m (some ⟨g, 0, none⟩) ps.length b t ps (w4.alloc (.cells #[.int .i64 o, .int .i64 l, .int .i64 m, .slice (some ⟨g, 0, none⟩) ps.length ps.length, .int .i64 b, .int .i64 t] 32)) (PR.of_blk P4 P4.lt) hn)
    clear B3 L3 hb4 C4 hP a0 a1 a2 a3 a4 a5
    go_wp2_with fail
    refine (unhide C5).mono ?_; rintro e w5 ⟨rfl, hb5⟩
    have s5 : Below w.heap.size w w5 ∧ w5.cell? ⟨w.heap.size, 0, none⟩ = some (.int .i64 o) ∧ w5.cell? ⟨w.heap.size, 1, none⟩ = some (.int .i64 l) ∧ w5.cell? ⟨w.heap.size, 2, none⟩ = some (.int .i64 m) ∧ w5.cell? ⟨w.heap.size, 3, none⟩ = some (.slice A ps.length c) ∧ w5.cell? ⟨w.heap.size, 4, none⟩ = some (.int .i64 b) ∧ w5.cell? ⟨w.heap.size, 5, none⟩ = some (.int .i64 t) ∧ w5.cell? ⟨w4.heap.size, 0, none⟩ = some (.int .i64 o) ∧ w5.cell? ⟨w4.heap.size, 1, none⟩ = some (.int .i64 l) ∧ w5.cell? ⟨w4.heap.size, 2, none⟩ = some (.int .i64 m) ∧ w5.cell? ⟨w4.heap.size, 3, none⟩ = some (.slice (some ⟨g, 0, none⟩) ps.length ps.length) ∧ w5.cell? ⟨w4.heap.size, 4, none⟩ = some (.int .i64 b) ∧ w5.cell? ⟨w4.heap.size, 5, none⟩ = some (.int .i64 t) ∧ Blk w5 g 61 (pcells ps) := keepL hb5 ⟨B4, L4.cell 0, L4.cell 1, L4.cell 2, L4.cell 3, L4.cell 4, L4.cell 5, X4.cell 0, X4.cell 1, X4.cell 2, X4.cell 3, X4.cell 4, X4.cell 5, P4⟩
    have s0 : Below w.heap.size w w5.drew ∧ w5.drew.cell? ⟨w.heap.size, 0, none⟩ = some (.int .i64 o) ∧ w5.drew.cell? ⟨w.heap.size, 1, none⟩ = some (.int .i64 l) ∧ w5.drew.cell? ⟨w.heap.size, 2, none⟩ = some (.int .i64 m) ∧ w5.drew.cell? ⟨w.heap.size, 3, none⟩ = some (.slice A ps.length c) ∧ w5.drew.cell? ⟨w.heap.size, 4, none⟩ = some (.int .i64 b) ∧ w5.drew.cell? ⟨w.heap.size, 5, none⟩ = some (.int .i64 t) ∧ w5.drew.cell? ⟨w4.heap.size, 0, none⟩ = some (.int .i64 o) ∧ w5.drew.cell? ⟨w4.heap.size, 1, none⟩ = some (.int .i64 l) ∧ w5.drew.cell? ⟨w4.heap.size, 2, none⟩ = some (.int .i64 m) ∧ w5.drew.cell? ⟨w4.heap.size, 3, none⟩ = some (.slice (some ⟨g, 0, none⟩) ps.length ps.length) ∧ w5.drew.cell? ⟨w4.heap.size, 4, none⟩ = some (.int .i64 b) ∧ w5.drew.cell? ⟨w4.heap.size, 5, none⟩ = some (.int .i64 t) ∧ Blk w5.drew g 61 (pcells ps) := ⟨s5.1.drew, s5.2⟩
    clear B4 L4 X4 P4 C5 hb5 hg s5
    go_wp2_with fail
    refine wp_region_held_drew (S := (fun W => Below w.heap.size w W ∧ W.cell? ⟨w.heap.size, 0, none⟩ = some (.int .i64 o) ∧ W.cell? ⟨w.heap.size, 1, none⟩ = some (.int .i64 l) ∧ W.cell? ⟨w.heap.size, 2, none⟩ = some (.int .i64 m) ∧ W.cell? ⟨w.heap.size, 3, none⟩ = some (.slice A ps.length c) ∧ W.cell? ⟨w.heap.size, 4, none⟩ = some (.int .i64 b) ∧ W.cell? ⟨w.heap.size, 5, none⟩ = some (.int .i64 t) ∧ W.cell? ⟨w4.heap.size, 0, none⟩ = some (.int .i64 o) ∧ W.cell? ⟨w4.heap.size, 1, none⟩ = some (.int .i64 l) ∧ W.cell? ⟨w4.heap.size, 2, none⟩ = some (.int .i64 m) ∧ W.cell? ⟨w4.heap.size, 3, none⟩ = some (.slice (some ⟨g, 0, none⟩) ps.length ps.length) ∧ W.cell? ⟨w4.heap.size, 4, none⟩ = some (.int .i64 b) ∧ W.cell? ⟨w4.heap.size, 5, none⟩ = some (.int .i64 t) ∧ Blk W g 61 (pcells ps))) (by kernel_rfl) (by first | assumption | exact s0 | exact keepL (by assumption) (by assumption)) (fun hHeld => ?_)
    refine wpAnyH_take (i := 0) (oi := { dst := some 22, op := Op.load 32 (Operand.tmp 5), type := 32, pos := "exact.go:1371", after := #[], guard := none }) (v := ?_) rfl (by kernel_rfl) (by kernel_rfl) (by kernel_rfl) (fun _ _ _ h => h) (Or.inl ⟨by rfl, ?_⟩) (by assumption) ?_; rotate_left
    · intro W hW; (try dsimp only at hW); go_simp;  try (with_reducible rfl)
    try simp only [Act.put, List.setIfInBounds_toArray, List.set_cons_zero, List.set_cons_succ]
    refine wpAnyH_take (i := 1) (oi := { dst := some 23, op := Op.load 26 (Operand.tmp 1), type := 26, pos := "exact.go:1371", after := #[], guard := none }) (v := ?_) rfl (by kernel_rfl) (by kernel_rfl) (by kernel_rfl) (fun _ _ _ h => h) (Or.inl ⟨by rfl, ?_⟩) (by assumption) ?_; rotate_left
    · intro W hW; (try dsimp only at hW); go_simp;  try (with_reducible rfl)
    try simp only [Act.put, List.setIfInBounds_toArray, List.set_cons_zero, List.set_cons_succ]
    refine wpAnyH_ready (rs := [2]) (by kernel_rfl) (by simp) (AllReadyH.cons (i := 2) (o := { dst := some 24, op := Op.call { callee := Callee.value (Operand.func 16), args := #[Operand.tmp 23], argTypes := #[26] }, type := 32, pos := "exact.go:1371", after := #[{ on := 1, ground := Ground.data }], guard := none }) rfl (fun K hK => ?_) AllReadyH.nil)
    go_simp
    refine (laws_toKnown o l m A c b t ps _ (hr.keep hHeld.1.size hHeld.1) hn).mono ?_; rintro e w' ⟨g6, rfl, hg6, hP6, hb⟩
    try go_wp2_with fail
    refine hK.out _ _ (by (try dsimp only); first | assumption | exact s0 | exact keepL (by assumption) (by assumption)) (fun hHeld => ?_)
    clear hK K
    try simp only [Act.put, List.setIfInBounds_toArray, List.set_cons_zero, List.set_cons_succ]
    refine wpAnyH_ready (rs := [3]) (by kernel_rfl) (by simp) (AllReadyH.cons (i := 3) (o := { dst := some 25, op := Op.call { callee := Callee.value (Operand.func 18), args := #[Operand.tmp 22, Operand.tmp 24], argTypes := #[32, 32] }, type := 4, pos := "exact.go:1371", after := #[{ on := 0, ground := Ground.data }, { on := 2, ground := Ground.data }, { on := 2, ground := Ground.chain }], guard := none }) rfl (fun K hK => ?_) AllReadyH.nil)
    go_simp
    refine (laws_eqKnown o l m (some ⟨g, 0, none⟩) (some ⟨g6, 0, none⟩) ps.length ps.length b t ps _ (PR.of_blk (hHeld.2.2.2.2.2.2.2.2.2.2.2.2.2) (hHeld.2.2.2.2.2.2.2.2.2.2.2.2.2).lt) (PR.of_blk hP6 hP6.lt) hn).mono ?_; rintro e w7 ⟨rfl, hb7⟩
    try go_wp2_with fail
    refine hK.out _ _ (by (try dsimp only); first | assumption | exact s0 | exact keepL (by assumption) (by assumption)) (fun hHeld => ?_)
    clear hK K
    try simp only [Act.put, List.setIfInBounds_toArray, List.set_cons_zero, List.set_cons_succ]
    refine wpAnyH_take (i := 4) (oi := { dst := some 26, op := Op.unOp UnOp.not 4 (Operand.tmp 25), type := 4, pos := "exact.go:1371", after := #[{ on := 3, ground := Ground.data }], guard := none }) (v := ?_) rfl (by kernel_rfl) (by kernel_rfl) (by kernel_rfl) (fun _ _ _ h => h) (Or.inl ⟨by rfl, ?_⟩) (by assumption) ?_; rotate_left
    · intro W hW; (try dsimp only at hW); go_simp;  try (with_reducible rfl)
    try simp only [Act.put, List.setIfInBounds_toArray, List.set_cons_zero, List.set_cons_succ]
    refine wpAnyH_done (by kernel_rfl) ?_ _
    go_wp2
    go_ret
    exact ⟨rfl, hHeld.1⟩
  · rw [if_neg hn] at CS
    have CS := hide CS
    have B0 : Below w.heap.size w (w.alloc (.cells #[.int .i64 o, .int .i64 l, .int .i64 m, .slice A ps.length c, .int .i64 b, .int .i64 t] 26)) := (Below.refl _ _).alloc (Nat.le_refl _) _
    go_enter Try.func5, Try.ntmps5
    go_wp2_with fail
    refine (unhide CS).mono ?_; rintro e w1 ⟨rfl, hb1⟩
    go_wp2_with fail
    go_ret
    exact ⟨rfl, below_next (Nat.le_refl _) B0 hb1⟩

set_option maxRecDepth 100000 in
set_option maxHeartbeats 4000000 in
theorem law_FnExactNextWord (o l m : Int) (A : Option Addr) (c : Nat) (b t : Int) (ps : List (Int × Int)) (w : World) (hr : PR w w.heap.size A ps) (hz : ps.length ≤ maxLen) :
    Calls Try.prog 6 #[kv o l m A ps.length c b t] w fun e w' => e = .returned (.bool true) ∧ Below w.heap.size w w' := by
  unfold maxLen at hz
  have CS := laws_szKnown o l m A ps.length c b t (w.alloc (.cells #[.int .i64 o, .int .i64 l, .int .i64 m, .slice A ps.length c, .int .i64 b, .int .i64 t] 26)) (by omega)
  by_cases hn : ps.length ≤ 1048576
  · rw [if_pos hn] at CS
    have CS := hide CS
    have B0 : Below w.heap.size w (w.alloc (.cells #[.int .i64 o, .int .i64 l, .int .i64 m, .slice A ps.length c, .int .i64 b, .int .i64 t] 26)) := (Below.refl _ _).alloc (Nat.le_refl _) _
    have L0 := Blk.new w 26 #[.int .i64 o, .int .i64 l, .int .i64 m, .slice A ps.length c, .int .i64 b, .int .i64 t]
    go_enter Try.func6, Try.ntmps6
    go_wp2_with fail
    refine (unhide CS).mono ?_; rintro e w1 ⟨rfl, hb1⟩
    have B1 := below_next (Nat.le_refl _) B0 hb1
    have L1 := L0.below hb1 L0.lt
    clear B0 L0 hb1 CS
    have a0 : w1.cell? ⟨w.heap.size, 0, none⟩ = some (.int .i64 o) := L1.cell 0
    have a1 : w1.cell? ⟨w.heap.size, 1, none⟩ = some (.int .i64 l) := L1.cell 1
    have a2 : w1.cell? ⟨w.heap.size, 2, none⟩ = some (.int .i64 m) := L1.cell 2
    have a3 : w1.cell? ⟨w.heap.size, 3, none⟩ = some (.slice A ps.length c) := L1.cell 3
    have a4 : w1.cell? ⟨w.heap.size, 4, none⟩ = some (.int .i64 b) := L1.cell 4
    have a5 : w1.cell? ⟨w.heap.size, 5, none⟩ = some (.int .i64 t) := L1.cell 5
    have C2 := hide (laws_toKnown o l m A c b t ps w1 (hr.keep B1.size B1) hn)
    go_wp2_with fail
    refine (unhide C2).mono ?_; rintro e w2 ⟨g2, rfl, hg2, hP2, hb2⟩
    have B2 := below_next (Nat.le_refl _) B1 hb2
    have L2 := L1.below hb2 L1.lt
    have C3 := hide (spec_NextWord o l m (some ⟨g2, 0, none⟩) ps.length b t ps w2 (PR.of_blk hP2 hP2.lt) hn)
    clear B1 L1 hb2 C2 hP2 hg2 a0 a1 a2 a3 a4 a5
    go_wp2_with fail
    refine (unhide C3).mono ?_; rintro e w3 ⟨rfl, hb3⟩
    have B3 := below_next (Nat.le_refl _) B2 hb3
    have L3 := L2.below hb3 L2.lt
    clear B2 L2 hb3 C3
    have a0 : w3.cell? ⟨w.heap.size, 0, none⟩ = some (.int .i64 o) := L3.cell 0
    have a1 : w3.cell? ⟨w.heap.size, 1, none⟩ = some (.int .i64 l) := L3.cell 1
    have a2 : w3.cell? ⟨w.heap.size, 2, none⟩ = some (.int .i64 m) := L3.cell 2
    have a3 : w3.cell? ⟨w.heap.size, 3, none⟩ = some (.slice A ps.length c) := L3.cell 3
    have a4 : w3.cell? ⟨w.heap.size, 4, none⟩ = some (.int .i64 b) := L3.cell 4
    have a5 : w3.cell? ⟨w.heap.size, 5, none⟩ = some (.int .i64 t) := L3.cell 5
    have C4 := hide (laws_toKnown o l m A c b t ps w3 (hr.keep B3.size B3) hn)
    go_wp2_with fail
    refine (unhide C4).mono ?_; rintro e w4 ⟨g, rfl, hg, hP, hb4⟩
    have B4 := (below_next (Nat.le_refl _) B3 hb4).alloc (below_next (Nat.le_refl _) B3 hb4).size (.cells #[.int .i64 o, .int .i64 l, .int .i64 m, .slice (some ⟨g, 0, none⟩) ps.length ps.length, .int .i64 b, .int .i64 t] 32)
    have L4 := (L3.below hb4 L3.lt).alloc (.cells #[.int .i64 o, .int .i64 l, .int .i64 m, .slice (some ⟨g, 0, none⟩) ps.length ps.length, .int .i64 b, .int .i64 t] 32)
    have X4 := Blk.new w4 32 #[.int .i64 o, .int .i64 l, .int .i64 m, .slice (some ⟨g, 0, none⟩) ps.length ps.length, .int .i64 b, .int .i64 t]
    have P4 := hP.alloc (.cells #[.int .i64 o, .int .i64 l, .int .i64 m, .slice (some ⟨g, 0, none⟩) ps.length ps.length, .int .i64 b, .int .i64 t] 32)
    have C5 := hide (impl_NextWord o l m (some ⟨g, 0, none⟩) ps.length b t ps (w4.alloc (.cells #[.int .i64 o, .int .i64 l, .int .i64 m, .slice (some ⟨g, 0, none⟩) ps.length ps.length, .int .i64 b, .int .i64 t] 32)) (PR.of_blk P4 P4.lt) hn)
    clear B3 L3 hb4 C4 hP a0 a1 a2 a3 a4 a5
    go_wp2_with fail
    refine (unhide C5).mono ?_; rintro e w5 ⟨rfl, hb5⟩
    have s5 : Below w.heap.size w w5 ∧ w5.cell? ⟨w.heap.size, 0, none⟩ = some (.int .i64 o) ∧ w5.cell? ⟨w.heap.size, 1, none⟩ = some (.int .i64 l) ∧ w5.cell? ⟨w.heap.size, 2, none⟩ = some (.int .i64 m) ∧ w5.cell? ⟨w.heap.size, 3, none⟩ = some (.slice A ps.length c) ∧ w5.cell? ⟨w.heap.size, 4, none⟩ = some (.int .i64 b) ∧ w5.cell? ⟨w.heap.size, 5, none⟩ = some (.int .i64 t) ∧ w5.cell? ⟨w4.heap.size, 0, none⟩ = some (.int .i64 o) ∧ w5.cell? ⟨w4.heap.size, 1, none⟩ = some (.int .i64 l) ∧ w5.cell? ⟨w4.heap.size, 2, none⟩ = some (.int .i64 m) ∧ w5.cell? ⟨w4.heap.size, 3, none⟩ = some (.slice (some ⟨g, 0, none⟩) ps.length ps.length) ∧ w5.cell? ⟨w4.heap.size, 4, none⟩ = some (.int .i64 b) ∧ w5.cell? ⟨w4.heap.size, 5, none⟩ = some (.int .i64 t) ∧ Blk w5 g 61 (pcells ps) := keepL hb5 ⟨B4, L4.cell 0, L4.cell 1, L4.cell 2, L4.cell 3, L4.cell 4, L4.cell 5, X4.cell 0, X4.cell 1, X4.cell 2, X4.cell 3, X4.cell 4, X4.cell 5, P4⟩
    have s0 : Below w.heap.size w w5.drew ∧ w5.drew.cell? ⟨w.heap.size, 0, none⟩ = some (.int .i64 o) ∧ w5.drew.cell? ⟨w.heap.size, 1, none⟩ = some (.int .i64 l) ∧ w5.drew.cell? ⟨w.heap.size, 2, none⟩ = some (.int .i64 m) ∧ w5.drew.cell? ⟨w.heap.size, 3, none⟩ = some (.slice A ps.length c) ∧ w5.drew.cell? ⟨w.heap.size, 4, none⟩ = some (.int .i64 b) ∧ w5.drew.cell? ⟨w.heap.size, 5, none⟩ = some (.int .i64 t) ∧ w5.drew.cell? ⟨w4.heap.size, 0, none⟩ = some (.int .i64 o) ∧ w5.drew.cell? ⟨w4.heap.size, 1, none⟩ = some (.int .i64 l) ∧ w5.drew.cell? ⟨w4.heap.size, 2, none⟩ = some (.int .i64 m) ∧ w5.drew.cell? ⟨w4.heap.size, 3, none⟩ = some (.slice (some ⟨g, 0, none⟩) ps.length ps.length) ∧ w5.drew.cell? ⟨w4.heap.size, 4, none⟩ = some (.int .i64 b) ∧ w5.drew.cell? ⟨w4.heap.size, 5, none⟩ = some (.int .i64 t) ∧ Blk w5.drew g 61 (pcells ps) := ⟨s5.1.drew, s5.2⟩
    clear B4 L4 X4 P4 C5 hb5 hg s5
    go_wp2_with fail
    refine wp_region_held_drew (S := (fun W => Below w.heap.size w W ∧ W.cell? ⟨w.heap.size, 0, none⟩ = some (.int .i64 o) ∧ W.cell? ⟨w.heap.size, 1, none⟩ = some (.int .i64 l) ∧ W.cell? ⟨w.heap.size, 2, none⟩ = some (.int .i64 m) ∧ W.cell? ⟨w.heap.size, 3, none⟩ = some (.slice A ps.length c) ∧ W.cell? ⟨w.heap.size, 4, none⟩ = some (.int .i64 b) ∧ W.cell? ⟨w.heap.size, 5, none⟩ = some (.int .i64 t) ∧ W.cell? ⟨w4.heap.size, 0, none⟩ = some (.int .i64 o) ∧ W.cell? ⟨w4.heap.size, 1, none⟩ = some (.int .i64 l) ∧ W.cell? ⟨w4.heap.size, 2, none⟩ = some (.int .i64 m) ∧ W.cell? ⟨w4.heap.size, 3, none⟩ = some (.slice (some ⟨g, 0, none⟩) ps.length ps.length) ∧ W.cell? ⟨w4.heap.size, 4, none⟩ = some (.int .i64 b) ∧ W.cell? ⟨w4.heap.size, 5, none⟩ = some (.int .i64 t) ∧ Blk W g 61 (pcells ps))) (by kernel_rfl) (by first | assumption | exact s0 | exact keepL (by assumption) (by assumption)) (fun hHeld => ?_)
    refine wpAnyH_take (i := 0) (oi := { dst := some 22, op := Op.load 32 (Operand.tmp 5), type := 32, pos := "exact.go:1352", after := #[], guard := none }) (v := ?_) rfl (by kernel_rfl) (by kernel_rfl) (by kernel_rfl) (fun _ _ _ h => h) (Or.inl ⟨by rfl, ?_⟩) (by assumption) ?_; rotate_left
    · intro W hW; (try dsimp only at hW); go_simp;  try (with_reducible rfl)
    try simp only [Act.put, List.setIfInBounds_toArray, List.set_cons_zero, List.set_cons_succ]
    refine wpAnyH_take (i := 1) (oi := { dst := some 23, op := Op.load 26 (Operand.tmp 1), type := 26, pos := "exact.go:1352", after := #[], guard := none }) (v := ?_) rfl (by kernel_rfl) (by kernel_rfl) (by kernel_rfl) (fun _ _ _ h => h) (Or.inl ⟨by rfl, ?_⟩) (by assumption) ?_; rotate_left
    · intro W hW; (try dsimp only at hW); go_simp;  try (with_reducible rfl)
    try simp only [Act.put, List.setIfInBounds_toArray, List.set_cons_zero, List.set_cons_succ]
    refine wpAnyH_ready (rs := [2]) (by kernel_rfl) (by simp) (AllReadyH.cons (i := 2) (o := { dst := some 24, op := Op.call { callee := Callee.value (Operand.func 16), args := #[Operand.tmp 23], argTypes := #[26] }, type := 32, pos := "exact.go:1352", after := #[{ on := 1, ground := Ground.data }], guard := none }) rfl (fun K hK => ?_) AllReadyH.nil)
    go_simp
    refine (laws_toKnown o l m A c b t ps _ (hr.keep hHeld.1.size hHeld.1) hn).mono ?_; rintro e w' ⟨g6, rfl, hg6, hP6, hb⟩
    try go_wp2_with fail
    refine hK.out _ _ (by (try dsimp only); first | assumption | exact s0 | exact keepL (by assumption) (by assumption)) (fun hHeld => ?_)
    clear hK K
    try simp only [Act.put, List.setIfInBounds_toArray, List.set_cons_zero, List.set_cons_succ]
    refine wpAnyH_ready (rs := [3]) (by kernel_rfl) (by simp) (AllReadyH.cons (i := 3) (o := { dst := some 25, op := Op.call { callee := Callee.value (Operand.func 18), args := #[Operand.tmp 22, Operand.tmp 24], argTypes := #[32, 32] }, type := 4, pos := "exact.go:1352", after := #[{ on := 0, ground := Ground.data }, { on := 2, ground := Ground.data }, { on := 2, ground := Ground.chain }], guard := none }) rfl (fun K hK => ?_) AllReadyH.nil)
    go_simp
    refine (laws_eqKnown o l m (some ⟨g, 0, none⟩) (some ⟨g6, 0, none⟩) ps.length ps.length b t ps _ (PR.of_blk (hHeld.2.2.2.2.2.2.2.2.2.2.2.2.2) (hHeld.2.2.2.2.2.2.2.2.2.2.2.2.2).lt) (PR.of_blk hP6 hP6.lt) hn).mono ?_; rintro e w7 ⟨rfl, hb7⟩
    try go_wp2_with fail
    refine hK.out _ _ (by (try dsimp only); first | assumption | exact s0 | exact keepL (by assumption) (by assumption)) (fun hHeld => ?_)
    clear hK K
    try simp only [Act.put, List.setIfInBounds_toArray, List.set_cons_zero, List.set_cons_succ]
    refine wpAnyH_take (i := 4) (oi := { dst := some 26, op := Op.unOp UnOp.not 4 (Operand.tmp 25), type := 4, pos := "exact.go:1352", after := #[{ on := 3, ground := Ground.data }], guard := none }) (v := ?_) rfl (by kernel_rfl) (by kernel_rfl) (by kernel_rfl) (fun _ _ _ h => h) (Or.inl ⟨by rfl, ?_⟩) (by assumption) ?_; rotate_left
    · intro W hW; (try dsimp only at hW); go_simp;  try (with_reducible rfl)
    try simp only [Act.put, List.setIfInBounds_toArray, List.set_cons_zero, List.set_cons_succ]
    refine wpAnyH_done (by kernel_rfl) ?_ _
    go_wp2
    go_ret
    exact ⟨rfl, hHeld.1⟩
  · rw [if_neg hn] at CS
    have CS := hide CS
    have B0 : Below w.heap.size w (w.alloc (.cells #[.int .i64 o, .int .i64 l, .int .i64 m, .slice A ps.length c, .int .i64 b, .int .i64 t] 26)) := (Below.refl _ _).alloc (Nat.le_refl _) _
    go_enter Try.func6, Try.ntmps6
    go_wp2_with fail
    refine (unhide CS).mono ?_; rintro e w1 ⟨rfl, hb1⟩
    go_wp2_with fail
    go_ret
    exact ⟨rfl, below_next (Nat.le_refl _) B0 hb1⟩

set_option maxRecDepth 100000 in
set_option maxHeartbeats 4000000 in
theorem law_FnExactGreatest (o l m : Int) (A : Option Addr) (c : Nat) (b t : Int) (ps : List (Int × Int)) (w : World) (hr : PR w w.heap.size A ps) (hz : ps.length ≤ maxLen) :
    Calls Try.prog 7 #[kv o l m A ps.length c b t] w fun e w' => e = .returned (.bool true) ∧ Below w.heap.size w w' := by
  unfold maxLen at hz
  have CS := laws_szKnown o l m A ps.length c b t (w.alloc (.cells #[.int .i64 o, .int .i64 l, .int .i64 m, .slice A ps.length c, .int .i64 b, .int .i64 t] 26)) (by omega)
  by_cases hn : ps.length ≤ 1048576
  · rw [if_pos hn] at CS
    have CS := hide CS
    have B0 : Below w.heap.size w (w.alloc (.cells #[.int .i64 o, .int .i64 l, .int .i64 m, .slice A ps.length c, .int .i64 b, .int .i64 t] 26)) := (Below.refl _ _).alloc (Nat.le_refl _) _
    have L0 := Blk.new w 26 #[.int .i64 o, .int .i64 l, .int .i64 m, .slice A ps.length c, .int .i64 b, .int .i64 t]
    go_enter Try.func7, Try.ntmps7
    go_wp2_with fail
    refine (unhide CS).mono ?_; rintro e w1 ⟨rfl, hb1⟩
    have B1 := below_next (Nat.le_refl _) B0 hb1
    have L1 := L0.below hb1 L0.lt
    clear B0 L0 hb1 CS
    have a0 : w1.cell? ⟨w.heap.size, 0, none⟩ = some (.int .i64 o) := L1.cell 0
    have a1 : w1.cell? ⟨w.heap.size, 1, none⟩ = some (.int .i64 l) := L1.cell 1
    have a2 : w1.cell? ⟨w.heap.size, 2, none⟩ = some (.int .i64 m) := L1.cell 2
    have a3 : w1.cell? ⟨w.heap.size, 3, none⟩ = some (.slice A ps.length c) := L1.cell 3
    have a4 : w1.cell? ⟨w.heap.size, 4, none⟩ = some (.int .i64 b) := L1.cell 4
    have a5 : w1.cell? ⟨w.heap.size, 5, none⟩ = some (.int .i64 t) := L1.cell 5
    have C2 := hide (laws_toKnown o l m A c b t ps w1 (hr.keep B1.size B1) hn)
    go_wp2_with fail
    refine (unhide C2).mono ?_; rintro e w2 ⟨g2, rfl, hg2, hP2, hb2⟩
    have B2 := below_next (Nat.le_refl _) B1 hb2
    have L2 := L1.below hb2 L1.lt
    have C3 := hide (spec_Greatest o l m (some ⟨g2, 0, none⟩) ps.length b t ps w2 (PR.of_blk hP2 hP2.lt) hn)
    clear B1 L1 hb2 C2 hP2 hg2 a0 a1 a2 a3 a4 a5
    go_wp2_with fail
    refine (unhide C3).mono ?_; rintro e w3 ⟨rfl, hb3⟩
    have B3 := below_next (Nat.le_refl _) B2 hb3
    have L3 := L2.below hb3 L2.lt
    clear B2 L2 hb3 C3
    have a0 : w3.cell? ⟨w.heap.size, 0, none⟩ = some (.int .i64 o) := L3.cell 0
    have a1 : w3.cell? ⟨w.heap.size, 1, none⟩ = some (.int .i64 l) := L3.cell 1
    have a2 : w3.cell? ⟨w.heap.size, 2, none⟩ = some (.int .i64 m) := L3.cell 2
    have a3 : w3.cell? ⟨w.heap.size, 3, none⟩ = some (.slice A ps.length c) := L3.cell 3
    have a4 : w3.cell? ⟨w.heap.size, 4, none⟩ = some (.int .i64 b) := L3.cell 4
    have a5 : w3.cell? ⟨w.heap.size, 5, none⟩ = some (.int .i64 t) := L3.cell 5
    have C4 := hide (laws_toKnown o l m A c b t ps w3 (hr.keep B3.size B3) hn)
    go_wp2_with fail
    refine (unhide C4).mono ?_; rintro e w4 ⟨g, rfl, hg, hP, hb4⟩
    have B4 := (below_next (Nat.le_refl _) B3 hb4).alloc (below_next (Nat.le_refl _) B3 hb4).size (.cells #[.int .i64 o, .int .i64 l, .int .i64 m, .slice (some ⟨g, 0, none⟩) ps.length ps.length, .int .i64 b, .int .i64 t] 32)
    have L4 := (L3.below hb4 L3.lt).alloc (.cells #[.int .i64 o, .int .i64 l, .int .i64 m, .slice (some ⟨g, 0, none⟩) ps.length ps.length, .int .i64 b, .int .i64 t] 32)
    have X4 := Blk.new w4 32 #[.int .i64 o, .int .i64 l, .int .i64 m, .slice (some ⟨g, 0, none⟩) ps.length ps.length, .int .i64 b, .int .i64 t]
    have P4 := hP.alloc (.cells #[.int .i64 o, .int .i64 l, .int .i64 m, .slice (some ⟨g, 0, none⟩) ps.length ps.length, .int .i64 b, .int .i64 t] 32)
    have C5 := hide (impl_Greatest o l m (some ⟨g, 0, none⟩) ps.length b t ps (w4.alloc (.cells #[.int .i64 o, .int .i64 l, .int .i64 m, .slice (some ⟨g, 0, none⟩) ps.length ps.length, .int .i64 b, .int .i64 t] 32)) (PR.of_blk P4 P4.lt) hn)
    clear B3 L3 hb4 C4 hP a0 a1 a2 a3 a4 a5
    go_wp2_with fail
    refine (unhide C5).mono ?_; rintro e w5 ⟨rfl, hb5⟩
    have s5 : Below w.heap.size w w5 ∧ w5.cell? ⟨w.heap.size, 0, none⟩ = some (.int .i64 o) ∧ w5.cell? ⟨w.heap.size, 1, none⟩ = some (.int .i64 l) ∧ w5.cell? ⟨w.heap.size, 2, none⟩ = some (.int .i64 m) ∧ w5.cell? ⟨w.heap.size, 3, none⟩ = some (.slice A ps.length c) ∧ w5.cell? ⟨w.heap.size, 4, none⟩ = some (.int .i64 b) ∧ w5.cell? ⟨w.heap.size, 5, none⟩ = some (.int .i64 t) ∧ w5.cell? ⟨w4.heap.size, 0, none⟩ = some (.int .i64 o) ∧ w5.cell? ⟨w4.heap.size, 1, none⟩ = some (.int .i64 l) ∧ w5.cell? ⟨w4.heap.size, 2, none⟩ = some (.int .i64 m) ∧ w5.cell? ⟨w4.heap.size, 3, none⟩ = some (.slice (some ⟨g, 0, none⟩) ps.length ps.length) ∧ w5.cell? ⟨w4.heap.size, 4, none⟩ = some (.int .i64 b) ∧ w5.cell? ⟨w4.heap.size, 5, none⟩ = some (.int .i64 t) ∧ Blk w5 g 61 (pcells ps) := keepL hb5 ⟨B4, L4.cell 0, L4.cell 1, L4.cell 2, L4.cell 3, L4.cell 4, L4.cell 5, X4.cell 0, X4.cell 1, X4.cell 2, X4.cell 3, X4.cell 4, X4.cell 5, P4⟩
    have s0 : Below w.heap.size w w5.drew ∧ w5.drew.cell? ⟨w.heap.size, 0, none⟩ = some (.int .i64 o) ∧ w5.drew.cell? ⟨w.heap.size, 1, none⟩ = some (.int .i64 l) ∧ w5.drew.cell? ⟨w.heap.size, 2, none⟩ = some (.int .i64 m) ∧ w5.drew.cell? ⟨w.heap.size, 3, none⟩ = some (.slice A ps.length c) ∧ w5.drew.cell? ⟨w.heap.size, 4, none⟩ = some (.int .i64 b) ∧ w5.drew.cell? ⟨w.heap.size, 5, none⟩ = some (.int .i64 t) ∧ w5.drew.cell? ⟨w4.heap.size, 0, none⟩ = some (.int .i64 o) ∧ w5.drew.cell? ⟨w4.heap.size, 1, none⟩ = some (.int .i64 l) ∧ w5.drew.cell? ⟨w4.heap.size, 2, none⟩ = some (.int .i64 m) ∧ w5.drew.cell? ⟨w4.heap.size, 3, none⟩ = some (.slice (some ⟨g, 0, none⟩) ps.length ps.length) ∧ w5.drew.cell? ⟨w4.heap.size, 4, none⟩ = some (.int .i64 b) ∧ w5.drew.cell? ⟨w4.heap.size, 5, none⟩ = some (.int .i64 t) ∧ Blk w5.drew g 61 (pcells ps) := ⟨s5.1.drew, s5.2⟩
    clear B4 L4 X4 P4 C5 hb5 hg s5
    go_wp2_with fail
    refine wp_region_held_drew (S := (fun W => Below w.heap.size w W ∧ W.cell? ⟨w.heap.size, 0, none⟩ = some (.int .i64 o) ∧ W.cell? ⟨w.heap.size, 1, none⟩ = some (.int .i64 l) ∧ W.cell? ⟨w.heap.size, 2, none⟩ = some (.int .i64 m) ∧ W.cell? ⟨w.heap.size, 3, none⟩ = some (.slice A ps.length c) ∧ W.cell? ⟨w.heap.size, 4, none⟩ = some (.int .i64 b) ∧ W.cell? ⟨w.heap.size, 5, none⟩ = some (.int .i64 t) ∧ W.cell? ⟨w4.heap.size, 0, none⟩ = some (.int .i64 o) ∧ W.cell? ⟨w4.heap.size, 1, none⟩ = some (.int .i64 l) ∧ W.cell? ⟨w4.heap.size, 2, none⟩ = some (.int .i64 m) ∧ W.cell? ⟨w4.heap.size, 3, none⟩ = some (.slice (some ⟨g, 0, none⟩) ps.length ps.length) ∧ W.cell? ⟨w4.heap.size, 4, none⟩ = some (.int .i64 b) ∧ W.cell? ⟨w4.heap.size, 5, none⟩ = some (.int .i64 t) ∧ Blk W g 61 (pcells ps))) (by kernel_rfl) (by first | assumption | exact s0 | exact keepL (by assumption) (by assumption)) (fun hHeld => ?_)
    refine wpAnyH_take (i := 0) (oi := { dst := some 22, op := Op.load 32 (Operand.tmp 5), type := 32, pos := "exact.go:1390", after := #[], guard := none }) (v := ?_) rfl (by kernel_rfl) (by kernel_rfl) (by kernel_rfl) (fun _ _ _ h => h) (Or.inl ⟨by rfl, ?_⟩) (by assumption) ?_; rotate_left
    · intro W hW; (try dsimp only at hW); go_simp;  try (with_reducible rfl)
    try simp only [Act.put, List.setIfInBounds_toArray, List.set_cons_zero, List.set_cons_succ]
    refine wpAnyH_take (i := 1) (oi := { dst := some 23, op := Op.load 26 (Operand.tmp 1), type := 26, pos := "exact.go:1390", after := #[], guard := none }) (v := ?_) rfl (by kernel_rfl) (by kernel_rfl) (by kernel_rfl) (fun _ _ _ h => h) (Or.inl ⟨by rfl, ?_⟩) (by assumption) ?_; rotate_left
    · intro W hW; (try dsimp only at hW); go_simp;  try (with_reducible rfl)
    try simp only [Act.put, List.setIfInBounds_toArray, List.set_cons_zero, List.set_cons_succ]
    refine wpAnyH_ready (rs := [2]) (by kernel_rfl) (by simp) (AllReadyH.cons (i := 2) (o := { dst := some 24, op := Op.call { callee := Callee.value (Operand.func 16), args := #[Operand.tmp 23], argTypes := #[26] }, type := 32, pos := "exact.go:1390", after := #[{ on := 1, ground := Ground.data }], guard := none }) rfl (fun K hK => ?_) AllReadyH.nil)
    go_simp
    refine (laws_toKnown o l m A c b t ps _ (hr.keep hHeld.1.size hHeld.1) hn).mono ?_; rintro e w' ⟨g6, rfl, hg6, hP6, hb⟩
    try go_wp2_with fail
    refine hK.out _ _ (by (try dsimp only); first | assumption | exact s0 | exact keepL (by assumption) (by assumption)) (fun hHeld => ?_)
    clear hK K
    try simp only [Act.put, List.setIfInBounds_toArray, List.set_cons_zero, List.set_cons_succ]
    refine wpAnyH_ready (rs := [3]) (by kernel_rfl) (by simp) (AllReadyH.cons (i := 3) (o := { dst := some 25, op := Op.call { callee := Callee.value (Operand.func 18), args := #[Operand.tmp 22, Operand.tmp 24], argTypes := #[32, 32] }, type := 4, pos := "exact.go:1390", after := #[{ on := 0, ground := Ground.data }, { on := 2, ground := Ground.data }, { on := 2, ground := Ground.chain }], guard := none }) rfl (fun K hK => ?_) AllReadyH.nil)
    go_simp
    refine (laws_eqKnown o l m (some ⟨g, 0, none⟩) (some ⟨g6, 0, none⟩) ps.length ps.length b t ps _ (PR.of_blk (hHeld.2.2.2.2.2.2.2.2.2.2.2.2.2) (hHeld.2.2.2.2.2.2.2.2.2.2.2.2.2).lt) (PR.of_blk hP6 hP6.lt) hn).mono ?_; rintro e w7 ⟨rfl, hb7⟩
    try go_wp2_with fail
    refine hK.out _ _ (by (try dsimp only); first | assumption | exact s0 | exact keepL (by assumption) (by assumption)) (fun hHeld => ?_)
    clear hK K
    try simp only [Act.put, List.setIfInBounds_toArray, List.set_cons_zero, List.set_cons_succ]
    refine wpAnyH_take (i := 4) (oi := { dst := some 26, op := Op.unOp UnOp.not 4 (Operand.tmp 25), type := 4, pos := "exact.go:1390", after := #[{ on := 3, ground := Ground.data }], guard := none }) (v := ?_) rfl (by kernel_rfl) (by kernel_rfl) (by kernel_rfl) (fun _ _ _ h => h) (Or.inl ⟨by rfl, ?_⟩) (by assumption) ?_; rotate_left
    · intro W hW; (try dsimp only at hW); go_simp;  try (with_reducible rfl)
    try simp only [Act.put, List.setIfInBounds_toArray, List.set_cons_zero, List.set_cons_succ]
    refine wpAnyH_done (by kernel_rfl) ?_ _
    go_wp2
    go_ret
    exact ⟨rfl, hHeld.1⟩
  · rw [if_neg hn] at CS
    have CS := hide CS
    have B0 : Below w.heap.size w (w.alloc (.cells #[.int .i64 o, .int .i64 l, .int .i64 m, .slice A ps.length c, .int .i64 b, .int .i64 t] 26)) := (Below.refl _ _).alloc (Nat.le_refl _) _
    go_enter Try.func7, Try.ntmps7
    go_wp2_with fail
    refine (unhide CS).mono ?_; rintro e w1 ⟨rfl, hb1⟩
    go_wp2_with fail
    go_ret
    exact ⟨rfl, below_next (Nat.le_refl _) B0 hb1⟩

set_option maxRecDepth 100000 in
set_option maxHeartbeats 4000000 in
theorem law_FnExactWidth (o l m : Int) (A : Option Addr) (c : Nat) (b t : Int) (ps : List (Int × Int)) (w : World) (hr : PR w w.heap.size A ps) (hz : ps.length ≤ maxLen) :
    Calls Try.prog 9 #[kv o l m A ps.length c b t] w fun e w' => e = .returned (.bool true) ∧ Below w.heap.size w w' := by
  unfold maxLen at hz
  have CS := laws_szKnown o l m A ps.length c b t (w.alloc (.cells #[.int .i64 o, .int .i64 l, .int .i64 m, .slice A ps.length c, .int .i64 b, .int .i64 t] 26)) (by omega)
  by_cases hn : ps.length ≤ 1048576
  · rw [if_pos hn] at CS
    have CS := hide CS
    have B0 : Below w.heap.size w (w.alloc (.cells #[.int .i64 o, .int .i64 l, .int .i64 m, .slice A ps.length c, .int .i64 b, .int .i64 t] 26)) := (Below.refl _ _).alloc (Nat.le_refl _) _
    have L0 := Blk.new w 26 #[.int .i64 o, .int .i64 l, .int .i64 m, .slice A ps.length c, .int .i64 b, .int .i64 t]
    go_enter Try.func9, Try.ntmps9
    go_wp2_with fail
    refine (unhide CS).mono ?_; rintro e w1 ⟨rfl, hb1⟩
    have B1 := below_next (Nat.le_refl _) B0 hb1
    have L1 := L0.below hb1 L0.lt
    clear B0 L0 hb1 CS
    have a0 : w1.cell? ⟨w.heap.size, 0, none⟩ = some (.int .i64 o) := L1.cell 0
    have a1 : w1.cell? ⟨w.heap.size, 1, none⟩ = some (.int .i64 l) := L1.cell 1
    have a2 : w1.cell? ⟨w.heap.size, 2, none⟩ = some (.int .i64 m) := L1.cell 2
    have a3 : w1.cell? ⟨w.heap.size, 3, none⟩ = some (.slice A ps.length c) := L1.cell 3
    have a4 : w1.cell? ⟨w.heap.size, 4, none⟩ = some (.int .i64 b) := L1.cell 4
    have a5 : w1.cell? ⟨w.heap.size, 5, none⟩ = some (.int .i64 t) := L1.cell 5
    have C2 := hide (laws_toKnown o l m A c b t ps w1 (hr.keep B1.size B1) hn)
    go_wp2_with fail
    refine (unhide C2).mono ?_; rintro e w2 ⟨g2, rfl, hg2, hP2, hb2⟩
    have B2 := below_next (Nat.le_refl _) B1 hb2
    have L2 := L1.below hb2 L1.lt
    have C3 := hide (spec_Width o l m (some ⟨g2, 0, none⟩) ps.length b t ps w2 (PR.of_blk hP2 hP2.lt) hn)
    clear B1 L1 hb2 C2 hP2 hg2 a0 a1 a2 a3 a4 a5
    go_wp2_with fail
    refine (unhide C3).mono ?_; rintro e w3 ⟨rfl, hb3⟩
    have B3 := below_next (Nat.le_refl _) B2 hb3
    have L3 := L2.below hb3 L2.lt
    clear B2 L2 hb3 C3
    have a0 : w3.cell? ⟨w.heap.size, 0, none⟩ = some (.int .i64 o) := L3.cell 0
    have a1 : w3.cell? ⟨w.heap.size, 1, none⟩ = some (.int .i64 l) := L3.cell 1
    have a2 : w3.cell? ⟨w.heap.size, 2, none⟩ = some (.int .i64 m) := L3.cell 2
    have a3 : w3.cell? ⟨w.heap.size, 3, none⟩ = some (.slice A ps.length c) := L3.cell 3
    have a4 : w3.cell? ⟨w.heap.size, 4, none⟩ = some (.int .i64 b) := L3.cell 4
    have a5 : w3.cell? ⟨w.heap.size, 5, none⟩ = some (.int .i64 t) := L3.cell 5
    have C4 := hide (laws_toKnown o l m A c b t ps w3 (hr.keep B3.size B3) hn)
    go_wp2_with fail
    refine (unhide C4).mono ?_; rintro e w4 ⟨g, rfl, hg, hP, hb4⟩
    have B4 := (below_next (Nat.le_refl _) B3 hb4).alloc (below_next (Nat.le_refl _) B3 hb4).size (.cells #[.int .i64 o, .int .i64 l, .int .i64 m, .slice (some ⟨g, 0, none⟩) ps.length ps.length, .int .i64 b, .int .i64 t] 32)
    have L4 := (L3.below hb4 L3.lt).alloc (.cells #[.int .i64 o, .int .i64 l, .int .i64 m, .slice (some ⟨g, 0, none⟩) ps.length ps.length, .int .i64 b, .int .i64 t] 32)
    have X4 := Blk.new w4 32 #[.int .i64 o, .int .i64 l, .int .i64 m, .slice (some ⟨g, 0, none⟩) ps.length ps.length, .int .i64 b, .int .i64 t]
    have P4 := hP.alloc (.cells #[.int .i64 o, .int .i64 l, .int .i64 m, .slice (some ⟨g, 0, none⟩) ps.length ps.length, .int .i64 b, .int .i64 t] 32)
    have C5 := hide (impl_Width o l m (some ⟨g, 0, none⟩) ps.length b t ps (w4.alloc (.cells #[.int .i64 o, .int .i64 l, .int .i64 m, .slice (some ⟨g, 0, none⟩) ps.length ps.length, .int .i64 b, .int .i64 t] 32)) (PR.of_blk P4 P4.lt) hn)
    clear B3 L3 hb4 C4 hP a0 a1 a2 a3 a4 a5
    go_wp2_with fail
    refine (unhide C5).mono ?_; rintro e w5 ⟨rfl, hb5⟩
    have s5 : Below w.heap.size w w5 ∧ w5.cell? ⟨w.heap.size, 0, none⟩ = some (.int .i64 o) ∧ w5.cell? ⟨w.heap.size, 1, none⟩ = some (.int .i64 l) ∧ w5.cell? ⟨w.heap.size, 2, none⟩ = some (.int .i64 m) ∧ w5.cell? ⟨w.heap.size, 3, none⟩ = some (.slice A ps.length c) ∧ w5.cell? ⟨w.heap.size, 4, none⟩ = some (.int .i64 b) ∧ w5.cell? ⟨w.heap.size, 5, none⟩ = some (.int .i64 t) ∧ w5.cell? ⟨w4.heap.size, 0, none⟩ = some (.int .i64 o) ∧ w5.cell? ⟨w4.heap.size, 1, none⟩ = some (.int .i64 l) ∧ w5.cell? ⟨w4.heap.size, 2, none⟩ = some (.int .i64 m) ∧ w5.cell? ⟨w4.heap.size, 3, none⟩ = some (.slice (some ⟨g, 0, none⟩) ps.length ps.length) ∧ w5.cell? ⟨w4.heap.size, 4, none⟩ = some (.int .i64 b) ∧ w5.cell? ⟨w4.heap.size, 5, none⟩ = some (.int .i64 t) ∧ Blk w5 g 61 (pcells ps) := keepL hb5 ⟨B4, L4.cell 0, L4.cell 1, L4.cell 2, L4.cell 3, L4.cell 4, L4.cell 5, X4.cell 0, X4.cell 1, X4.cell 2, X4.cell 3, X4.cell 4, X4.cell 5, P4⟩
    have s0 : Below w.heap.size w w5.drew ∧ w5.drew.cell? ⟨w.heap.size, 0, none⟩ = some (.int .i64 o) ∧ w5.drew.cell? ⟨w.heap.size, 1, none⟩ = some (.int .i64 l) ∧ w5.drew.cell? ⟨w.heap.size, 2, none⟩ = some (.int .i64 m) ∧ w5.drew.cell? ⟨w.heap.size, 3, none⟩ = some (.slice A ps.length c) ∧ w5.drew.cell? ⟨w.heap.size, 4, none⟩ = some (.int .i64 b) ∧ w5.drew.cell? ⟨w.heap.size, 5, none⟩ = some (.int .i64 t) ∧ w5.drew.cell? ⟨w4.heap.size, 0, none⟩ = some (.int .i64 o) ∧ w5.drew.cell? ⟨w4.heap.size, 1, none⟩ = some (.int .i64 l) ∧ w5.drew.cell? ⟨w4.heap.size, 2, none⟩ = some (.int .i64 m) ∧ w5.drew.cell? ⟨w4.heap.size, 3, none⟩ = some (.slice (some ⟨g, 0, none⟩) ps.length ps.length) ∧ w5.drew.cell? ⟨w4.heap.size, 4, none⟩ = some (.int .i64 b) ∧ w5.drew.cell? ⟨w4.heap.size, 5, none⟩ = some (.int .i64 t) ∧ Blk w5.drew g 61 (pcells ps) := ⟨s5.1.drew, s5.2⟩
    clear B4 L4 X4 P4 C5 hb5 hg s5
    go_wp2_with fail
    refine wp_region_held_drew (S := (fun W => Below w.heap.size w W ∧ W.cell? ⟨w.heap.size, 0, none⟩ = some (.int .i64 o) ∧ W.cell? ⟨w.heap.size, 1, none⟩ = some (.int .i64 l) ∧ W.cell? ⟨w.heap.size, 2, none⟩ = some (.int .i64 m) ∧ W.cell? ⟨w.heap.size, 3, none⟩ = some (.slice A ps.length c) ∧ W.cell? ⟨w.heap.size, 4, none⟩ = some (.int .i64 b) ∧ W.cell? ⟨w.heap.size, 5, none⟩ = some (.int .i64 t) ∧ W.cell? ⟨w4.heap.size, 0, none⟩ = some (.int .i64 o) ∧ W.cell? ⟨w4.heap.size, 1, none⟩ = some (.int .i64 l) ∧ W.cell? ⟨w4.heap.size, 2, none⟩ = some (.int .i64 m) ∧ W.cell? ⟨w4.heap.size, 3, none⟩ = some (.slice (some ⟨g, 0, none⟩) ps.length ps.length) ∧ W.cell? ⟨w4.heap.size, 4, none⟩ = some (.int .i64 b) ∧ W.cell? ⟨w4.heap.size, 5, none⟩ = some (.int .i64 t) ∧ Blk W g 61 (pcells ps))) (by kernel_rfl) (by first | assumption | exact s0 | exact keepL (by assumption) (by assumption)) (fun hHeld => ?_)
    refine wpAnyH_take (i := 0) (oi := { dst := some 22, op := Op.load 32 (Operand.tmp 5), type := 32, pos := "exact.go:1409", after := #[], guard := none }) (v := ?_) rfl (by kernel_rfl) (by kernel_rfl) (by kernel_rfl) (fun _ _ _ h => h) (Or.inl ⟨by rfl, ?_⟩) (by assumption) ?_; rotate_left
    · intro W hW; (try dsimp only at hW); go_simp;  try (with_reducible rfl)
    try simp only [Act.put, List.setIfInBounds_toArray, List.set_cons_zero, List.set_cons_succ]
    refine wpAnyH_take (i := 1) (oi := { dst := some 23, op := Op.load 26 (Operand.tmp 1), type := 26, pos := "exact.go:1409", after := #[], guard := none }) (v := ?_) rfl (by kernel_rfl) (by kernel_rfl) (by kernel_rfl) (fun _ _ _ h => h) (Or.inl ⟨by rfl, ?_⟩) (by assumption) ?_; rotate_left
    · intro W hW; (try dsimp only at hW); go_simp;  try (with_reducible rfl)
    try simp only [Act.put, List.setIfInBounds_toArray, List.set_cons_zero, List.set_cons_succ]
    refine wpAnyH_ready (rs := [2]) (by kernel_rfl) (by simp) (AllReadyH.cons (i := 2) (o := { dst := some 24, op := Op.call { callee := Callee.value (Operand.func 16), args := #[Operand.tmp 23], argTypes := #[26] }, type := 32, pos := "exact.go:1409", after := #[{ on := 1, ground := Ground.data }], guard := none }) rfl (fun K hK => ?_) AllReadyH.nil)
    go_simp
    refine (laws_toKnown o l m A c b t ps _ (hr.keep hHeld.1.size hHeld.1) hn).mono ?_; rintro e w' ⟨g6, rfl, hg6, hP6, hb⟩
    try go_wp2_with fail
    refine hK.out _ _ (by (try dsimp only); first | assumption | exact s0 | exact keepL (by assumption) (by assumption)) (fun hHeld => ?_)
    clear hK K
    try simp only [Act.put, List.setIfInBounds_toArray, List.set_cons_zero, List.set_cons_succ]
    refine wpAnyH_ready (rs := [3]) (by kernel_rfl) (by simp) (AllReadyH.cons (i := 3) (o := { dst := some 25, op := Op.call { callee := Callee.value (Operand.func 18), args := #[Operand.tmp 22, Operand.tmp 24], argTypes := #[32, 32] }, type := 4, pos := "exact.go:1409", after := #[{ on := 0, ground := Ground.data }, { on := 2, ground := Ground.data }, { on := 2, ground := Ground.chain }], guard := none }) rfl (fun K hK => ?_) AllReadyH.nil)
    go_simp
    refine (laws_eqKnown o l m (some ⟨g, 0, none⟩) (some ⟨g6, 0, none⟩) ps.length ps.length b t ps _ (PR.of_blk (hHeld.2.2.2.2.2.2.2.2.2.2.2.2.2) (hHeld.2.2.2.2.2.2.2.2.2.2.2.2.2).lt) (PR.of_blk hP6 hP6.lt) hn).mono ?_; rintro e w7 ⟨rfl, hb7⟩
    try go_wp2_with fail
    refine hK.out _ _ (by (try dsimp only); first | assumption | exact s0 | exact keepL (by assumption) (by assumption)) (fun hHeld => ?_)
    clear hK K
    try simp only [Act.put, List.setIfInBounds_toArray, List.set_cons_zero, List.set_cons_succ]
    refine wpAnyH_take (i := 4) (oi := { dst := some 26, op := Op.unOp UnOp.not 4 (Operand.tmp 25), type := 4, pos := "exact.go:1409", after := #[{ on := 3, ground := Ground.data }], guard := none }) (v := ?_) rfl (by kernel_rfl) (by kernel_rfl) (by kernel_rfl) (fun _ _ _ h => h) (Or.inl ⟨by rfl, ?_⟩) (by assumption) ?_; rotate_left
    · intro W hW; (try dsimp only at hW); go_simp;  try (with_reducible rfl)
    try simp only [Act.put, List.setIfInBounds_toArray, List.set_cons_zero, List.set_cons_succ]
    refine wpAnyH_done (by kernel_rfl) ?_ _
    go_wp2
    go_ret
    exact ⟨rfl, hHeld.1⟩
  · rw [if_neg hn] at CS
    have CS := hide CS
    have B0 : Below w.heap.size w (w.alloc (.cells #[.int .i64 o, .int .i64 l, .int .i64 m, .slice A ps.length c, .int .i64 b, .int .i64 t] 26)) := (Below.refl _ _).alloc (Nat.le_refl _) _
    go_enter Try.func9, Try.ntmps9
    go_wp2_with fail
    refine (unhide CS).mono ?_; rintro e w1 ⟨rfl, hb1⟩
    go_wp2_with fail
    go_ret
    exact ⟨rfl, below_next (Nat.le_refl _) B0 hb1⟩

end Go.Proofs.Ytflabakeiecfiaa

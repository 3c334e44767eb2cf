/- The walk of KnownValid of the program. Conditions: the pairs' cells lie below the call's own memory. -/
import Derived.Test.YtegfcpdkehgdpaaK2
namespace Go.Proofs.Ytegfcpdkehgdpaa
open Go.RowKit

set_option maxRecDepth 100000 in
set_option maxHeartbeats 2000000 in
theorem impl_hasWord (o l m x : Int) (n : Nat) (w : World) (h0 : Sx.setOK o l m = true) (hn : n ≤ 4000) :
    Calls Try.prog 78 #[sv o l m, .int .i64 n, .int .i64 x] w fun e w' => e = .returned (.bool (Sx.codeB l n x)) ∧ Below w.heap.size w w' := by
  have hbd := Sx.setOK_bd h0
  have t1 := Sx.two_pos l
  have t2 := Sx.two_lit (l := l) (by omega)
  have CE := hide (fun wx => by have := impl_EndCode o l m wx; rwa [Sx.end_yes h0] at this)
  have CC := hide (fun wx => by have := impl_ClearCode o l m wx; rwa [Sx.clear_yes h0] at this)
  have k0 := Blk.new w 28 #[.int .i64 o, .int .i64 l, .int .i64 m]
  have B0 : Below w.heap.size w (w.alloc (.cells #[.int .i64 o, .int .i64 l, .int .i64 m] 28)) := (Below.refl _ _).alloc (Nat.le_refl _) _
  have HR := hide (show Sx.codeB l n x = (decide (0 ≤ x ∧ x < Sx.two l) || decide (Sx.two l + 2 ≤ x ∧ x ≤ Sx.two l + 1 + n)) from rfl)
  clear h0 hbd
  go_enter Try.func78, Try.ntmps78
  go_wp2_with fail
  refine ((unhide CE) _).mono ?_; rintro e w1 ⟨rfl, hb1⟩
  obtain ⟨B1, c0, c1, c2⟩ := keep3 hb1 ⟨B0, k0.cell 0, k0.cell 1, k0.cell 2⟩
  clear k0 hb1 B0
  have c0 : w1.cell? ⟨w.heap.size, 0, none⟩ = some (.int .i64 o) := c0
  have c1 : w1.cell? ⟨w.heap.size, 1, none⟩ = some (.int .i64 l) := c1
  have c2 : w1.cell? ⟨w.heap.size, 2, none⟩ = some (.int .i64 m) := c2
  by_cases q0 : 0 ≤ x
  · go_wp2_with fail
    refine ((unhide CC) _).mono ?_; rintro e w2 ⟨rfl, hb2⟩
    have B2 := below_next (Nat.le_refl _) B1 hb2
    by_cases q1 : x < Sx.two l
    · go_wp2_with fail
      go_ret
      exact ⟨ret_bool (by rw [HR.out, decide_eq_true ⟨q0, q1⟩]; rfl), B2⟩
    · by_cases q2 : Sx.two l + 1 < x
      · by_cases q3 : x ≤ Sx.two l + 1 + (n : Int)
        · go_wp2_with fail
          go_ret
          exact ⟨ret_bool (by rw [HR.out, decide_eq_true (show Sx.two l + 2 ≤ x ∧ x ≤ Sx.two l + 1 + n from ⟨by omega, by omega⟩)]; simp), B2⟩
        · go_wp2_with fail
          go_ret
          exact ⟨ret_bool (by rw [HR.out, decide_eq_false (show ¬ (0 ≤ x ∧ x < Sx.two l) by omega), decide_eq_false (show ¬ (Sx.two l + 2 ≤ x ∧ x ≤ Sx.two l + 1 + n) by omega)]; first | rfl | (simp; omega)), B2⟩
      · go_wp2_with fail
        go_ret
        exact ⟨ret_bool (by rw [HR.out, decide_eq_false (show ¬ (0 ≤ x ∧ x < Sx.two l) by omega), decide_eq_false (show ¬ (Sx.two l + 2 ≤ x ∧ x ≤ Sx.two l + 1 + n) by omega)]; first | rfl | (simp; omega)), B2⟩
  · have q2 : ¬ Sx.two l + 1 < x := by omega
    go_wp2_with fail
    go_ret
    exact ⟨ret_bool (by rw [HR.out, decide_eq_false (show ¬ (0 ≤ x ∧ x < Sx.two l) by omega), decide_eq_false (show ¬ (Sx.two l + 2 ≤ x ∧ x ≤ Sx.two l + 1 + n) by omega)]; first | rfl | (simp; omega)), B1⟩

theorem Sx.code_neg {l : Int} {n : Nat} : Sx.codeB l n (-1) = false := by
  have := Sx.two_pos l
  simp only [Sx.codeB, Bool.or_eq_false_iff, decide_eq_false_iff_not]; omega

set_option maxRecDepth 100000 in
set_option maxHeartbeats 4000000 in
theorem impl_KnownValid (o l m : Int) (A : Option Addr) (c : Nat) (b t : Int) (ps : List (Int × Int)) (w : World) (hr : PR w w.heap.size A ps) (hz : ps.length ≤ 1048576) :
    Calls Try.prog 40 #[kv o l m A ps.length c b t] w fun e w' => e = .returned (.bool (Sx.kOK o l m ps b t)) ∧ Below w.heap.size w w' := by
  have kb := (Blk.new w 31 #[.int .i64 o, .int .i64 l, .int .i64 m, .slice A ps.length c, .int .i64 b, .int .i64 t]).alloc (.cells #[.int .i64 o, .int .i64 l, .int .i64 m] 28)
  have ks := blk_new2 w (.cells #[.int .i64 o, .int .i64 l, .int .i64 m, .slice A ps.length c, .int .i64 b, .int .i64 t] 31) 28 #[.int .i64 o, .int .i64 l, .int .i64 m]
  have s0 : Below w.heap.size w (((w.alloc (.cells #[.int .i64 o, .int .i64 l, .int .i64 m, .slice A ps.length c, .int .i64 b, .int .i64 t] 31)).alloc (.cells #[.int .i64 o, .int .i64 l, .int .i64 m] 28)).drew) ∧ (((w.alloc (.cells #[.int .i64 o, .int .i64 l, .int .i64 m, .slice A ps.length c, .int .i64 b, .int .i64 t] 31)).alloc (.cells #[.int .i64 o, .int .i64 l, .int .i64 m] 28)).drew).cell? ⟨w.heap.size, 0, none⟩ = some (.int .i64 o) ∧ (((w.alloc (.cells #[.int .i64 o, .int .i64 l, .int .i64 m, .slice A ps.length c, .int .i64 b, .int .i64 t] 31)).alloc (.cells #[.int .i64 o, .int .i64 l, .int .i64 m] 28)).drew).cell? ⟨w.heap.size, 1, none⟩ = some (.int .i64 l) ∧ (((w.alloc (.cells #[.int .i64 o, .int .i64 l, .int .i64 m, .slice A ps.length c, .int .i64 b, .int .i64 t] 31)).alloc (.cells #[.int .i64 o, .int .i64 l, .int .i64 m] 28)).drew).cell? ⟨w.heap.size, 2, none⟩ = some (.int .i64 m) ∧ (((w.alloc (.cells #[.int .i64 o, .int .i64 l, .int .i64 m, .slice A ps.length c, .int .i64 b, .int .i64 t] 31)).alloc (.cells #[.int .i64 o, .int .i64 l, .int .i64 m] 28)).drew).cell? ⟨w.heap.size, 3, none⟩ = some (.slice A ps.length c) ∧ (((w.alloc (.cells #[.int .i64 o, .int .i64 l, .int .i64 m, .slice A ps.length c, .int .i64 b, .int .i64 t] 31)).alloc (.cells #[.int .i64 o, .int .i64 l, .int .i64 m] 28)).drew).cell? ⟨w.heap.size, 4, none⟩ = some (.int .i64 b) ∧ (((w.alloc (.cells #[.int .i64 o, .int .i64 l, .int .i64 m, .slice A ps.length c, .int .i64 b, .int .i64 t] 31)).alloc (.cells #[.int .i64 o, .int .i64 l, .int .i64 m] 28)).drew).cell? ⟨w.heap.size, 5, none⟩ = some (.int .i64 t) ∧ (((w.alloc (.cells #[.int .i64 o, .int .i64 l, .int .i64 m, .slice A ps.length c, .int .i64 b, .int .i64 t] 31)).alloc (.cells #[.int .i64 o, .int .i64 l, .int .i64 m] 28)).drew).cell? ⟨w.heap.size + 1, 0, none⟩ = some (.int .i64 o) ∧ (((w.alloc (.cells #[.int .i64 o, .int .i64 l, .int .i64 m, .slice A ps.length c, .int .i64 b, .int .i64 t] 31)).alloc (.cells #[.int .i64 o, .int .i64 l, .int .i64 m] 28)).drew).cell? ⟨w.heap.size + 1, 1, none⟩ = some (.int .i64 l) ∧ (((w.alloc (.cells #[.int .i64 o, .int .i64 l, .int .i64 m, .slice A ps.length c, .int .i64 b, .int .i64 t] 31)).alloc (.cells #[.int .i64 o, .int .i64 l, .int .i64 m] 28)).drew).cell? ⟨w.heap.size + 1, 2, none⟩ = some (.int .i64 m) :=
    ⟨(((Below.refl _ _).alloc (Nat.le_refl _) _).alloc (by simp) _).drew, kb.cell 0, kb.cell 1, kb.cell 2, kb.cell 3, kb.cell 4, kb.cell 5, ks.cell 0, ks.cell 1, ks.cell 2⟩
  clear kb ks
  have CV := hide (fun wx => impl_SettingValid o l m wx)
  by_cases h0 : Sx.setOK o l m = true
  · have hbd := Sx.setOK_bd h0
    have t1 := Sx.two_pos l
    have t2 := Sx.two_lit (l := l) (by omega)
    have t3 := Sx.two_lit (l := m) (by omega)
    have t4 := Sx.two_pos m
    have CL := hide (fun wx => by have := impl_LastCode o l m wx; rwa [Sx.last_yes h0] at this)
    have CE := hide (fun wx => by have := impl_EndCode o l m wx; rwa [Sx.end_yes h0] at this)
    have CC := hide (fun wx => by have := impl_ClearCode o l m wx; rwa [Sx.clear_yes h0] at this)
    rw [h0] at CV
    have e1 : IntKind.i64.wrap (Sx.two m - 1 - (Sx.two l + 1)) = Sx.two m - 1 - (Sx.two l + 1) := IntWalk.i64_in _ (by omega)
    by_cases h1 : Sx.two m - 1 - (Sx.two l + 1) < (ps.length : Int)
    · have HR := hide (Sx.kOK_len (o := o) (b := b) (t := t) h1)
      have q1 : decide (Sx.two m - 1 - (Sx.two l + 1) < (ps.length : Int)) = true := decide_eq_true h1
      go_enter Try.func40, Try.ntmps40
      go_wp2_with fail
      refine wp_region_held_drew (S := (fun W => Below w.heap.size w W ∧ W.cell? ⟨w.heap.size, 0, none⟩ = some (.int .i64 o) ∧ W.cell? ⟨w.heap.size, 1, none⟩ = some (.int .i64 l) ∧ W.cell? ⟨w.heap.size, 2, none⟩ = some (.int .i64 m) ∧ W.cell? ⟨w.heap.size, 3, none⟩ = some (.slice A ps.length c) ∧ W.cell? ⟨w.heap.size, 4, none⟩ = some (.int .i64 b) ∧ W.cell? ⟨w.heap.size, 5, none⟩ = some (.int .i64 t) ∧ W.cell? ⟨w.heap.size + 1, 0, none⟩ = some (.int .i64 o) ∧ W.cell? ⟨w.heap.size + 1, 1, none⟩ = some (.int .i64 l) ∧ W.cell? ⟨w.heap.size + 1, 2, none⟩ = some (.int .i64 m))) (by kernel_rfl) (by first | assumption | exact s0 | exact keep9 (by assumption) (by assumption)) (fun hHeld => ?_)
      refine wpAnyH_take (i := 0) (oi := { dst := some 8, op := Op.load 28 (Operand.tmp 3), type := 28, pos := "l2_words.go:38", after := #[], guard := none }) (v := ?_) rfl (by kernel_rfl) (by kernel_rfl) (by kernel_rfl) (fun _ _ _ h => h) (Or.inl ⟨by rfl, ?_⟩) (by assumption) ?_; rotate_left
      · intro W hW; (try dsimp only at hW); go_simp;  try (with_reducible rfl)
      try simp only [Act.put, List.setIfInBounds_toArray, List.set_cons_zero, List.set_cons_succ]
      refine wpAnyH_ready (rs := [1]) (by kernel_rfl) (by simp) (AllReadyH.cons (i := 1) (o := { dst := some 9, op := Op.call { callee := Callee.value (Operand.func 39), args := #[Operand.tmp 8], argTypes := #[28] }, type := 4, pos := "l2_words.go:38", after := #[{ on := 0, ground := Ground.data }], guard := none }) rfl (fun K hK => ?_) AllReadyH.nil)
      go_simp
      refine ((unhide CV) _).mono ?_; rintro e w' ⟨rfl, hb⟩
      try go_wp2_with fail
      refine hK.out _ _ (by (try dsimp only); first | assumption | exact s0 | exact keep9 (by assumption) (by assumption)) (fun hHeld => ?_)
      clear hK K
      try simp only [Act.put, List.setIfInBounds_toArray, List.set_cons_zero, List.set_cons_succ]
      refine wpAnyH_take (i := 2) (oi := { dst := some 10, op := Op.unOp UnOp.not 4 (Operand.tmp 9), type := 4, pos := "l2_words.go:38", after := #[{ on := 1, ground := Ground.data }], guard := none }) (v := ?_) rfl (by kernel_rfl) (by kernel_rfl) (by kernel_rfl) (fun _ _ _ h => h) (Or.inl ⟨by rfl, ?_⟩) (by assumption) ?_; rotate_left
      · intro W hW; (try dsimp only at hW); go_simp;  try (with_reducible rfl)
      try simp only [Act.put, List.setIfInBounds_toArray, List.set_cons_zero, List.set_cons_succ]
      refine wpAnyH_take (i := 3) (oi := { dst := some 11, op := Op.move (Operand.tmp 10), type := 4, pos := "l2_words.go:38", after := #[{ on := 2, ground := Ground.data }, { on := 1, ground := Ground.chain }], guard := none }) (v := ?_) rfl (by kernel_rfl) (by kernel_rfl) (by kernel_rfl) (fun _ _ _ h => h) (Or.inl ⟨by rfl, ?_⟩) (by assumption) ?_; rotate_left
      · intro W hW; (try dsimp only at hW); go_simp;  try (with_reducible rfl)
      try simp only [Act.put, List.setIfInBounds_toArray, List.set_cons_zero, List.set_cons_succ]
      refine wpAnyH_take (i := 4) (oi := { dst := some 12, op := Op.fieldAddr 31 (Operand.tmp 1) 1, type := 0, pos := "l2_words.go:38", after := #[{ on := 3, ground := Ground.guard }], guard := some (3, false) }) (v := ?_) rfl (by kernel_rfl) (by kernel_rfl) (by kernel_rfl) (fun _ _ _ h => h) (Or.inl ⟨by rfl, ?_⟩) (by assumption) ?_; rotate_left
      · intro W hW; (try dsimp only at hW); go_simp;  try (with_reducible rfl)
      try simp only [Act.put, List.setIfInBounds_toArray, List.set_cons_zero, List.set_cons_succ]
      refine wpAnyH_take (i := 5) (oi := { dst := some 13, op := Op.load 29 (Operand.tmp 12), type := 29, pos := "l2_words.go:38", after := #[{ on := 4, ground := Ground.data }, { on := 3, ground := Ground.guard }], guard := some (3, false) }) (v := ?_) rfl (by kernel_rfl) (by kernel_rfl) (by kernel_rfl) (fun _ _ _ h => h) (Or.inl ⟨by rfl, ?_⟩) (by assumption) ?_; rotate_left
      · intro W hW; (try dsimp only at hW); go_simp;  try (with_reducible rfl)
      try simp only [Act.put, List.setIfInBounds_toArray, List.set_cons_zero, List.set_cons_succ]
      refine wpAnyH_take (i := 6) (oi := { dst := some 14, op := Op.call { callee := Callee.builtin Builtin.len, args := #[Operand.tmp 13], argTypes := #[29] }, type := 3, pos := "l2_words.go:38", after := #[{ on := 5, ground := Ground.data }, { on := 3, ground := Ground.guard }], guard := some (3, false) }) (v := ?_) rfl (by kernel_rfl) (by kernel_rfl) (by kernel_rfl) (fun _ _ _ h => h) (Or.inl ⟨by rfl, ?_⟩) (by assumption) ?_; rotate_left
      · intro W hW; (try dsimp only at hW); go_simp;  try (with_reducible rfl)
      try simp only [Act.put, List.setIfInBounds_toArray, List.set_cons_zero, List.set_cons_succ]
      refine wpAnyH_take (i := 7) (oi := { dst := some 15, op := Op.load 28 (Operand.tmp 3), type := 28, pos := "l2_words.go:38", after := #[{ on := 3, ground := Ground.guard }], guard := some (3, false) }) (v := ?_) rfl (by kernel_rfl) (by kernel_rfl) (by kernel_rfl) (fun _ _ _ h => h) (Or.inl ⟨by rfl, ?_⟩) (by assumption) ?_; rotate_left
      · intro W hW; (try dsimp only at hW); go_simp;  try (with_reducible rfl)
      try simp only [Act.put, List.setIfInBounds_toArray, List.set_cons_zero, List.set_cons_succ]
      refine wpAnyH_take (i := 9) (oi := { dst := some 17, op := Op.load 28 (Operand.tmp 3), type := 28, pos := "l2_words.go:38", after := #[{ on := 3, ground := Ground.guard }], guard := some (3, false) }) (v := ?_) rfl (by kernel_rfl) (by kernel_rfl) (by kernel_rfl) (fun _ _ _ h => h) (Or.inl ⟨by rfl, ?_⟩) (by assumption) ?_; rotate_left
      · intro W hW; (try dsimp only at hW); go_simp;  try (with_reducible rfl)
      try simp only [Act.put, List.setIfInBounds_toArray, List.set_cons_zero, List.set_cons_succ]
      refine wpAnyH_ready (rs := [8]) (by kernel_rfl) (by simp) (AllReadyH.cons (i := 8) (o := { dst := some 16, op := Op.call { callee := Callee.value (Operand.func 50), args := #[Operand.tmp 15], argTypes := #[28] }, type := 3, pos := "l2_words.go:38", after := #[{ on := 7, ground := Ground.data }, { on := 3, ground := Ground.chain }, { on := 3, ground := Ground.guard }], guard := some (3, false) }) rfl (fun K hK => ?_) AllReadyH.nil)
      go_simp
      refine ((unhide CL) _).mono ?_; rintro e w' ⟨rfl, hb⟩
      try go_wp2_with fail
      refine hK.out _ _ (by (try dsimp only); first | assumption | exact s0 | exact keep9 (by assumption) (by assumption)) (fun hHeld => ?_)
      clear hK K
      try simp only [Act.put, List.setIfInBounds_toArray, List.set_cons_zero, List.set_cons_succ]
      refine wpAnyH_ready (rs := [10]) (by kernel_rfl) (by simp) (AllReadyH.cons (i := 10) (o := { dst := some 18, op := Op.call { callee := Callee.value (Operand.func 34), args := #[Operand.tmp 17], argTypes := #[28] }, type := 3, pos := "l2_words.go:38", after := #[{ on := 9, ground := Ground.data }, { on := 8, ground := Ground.chain }, { on := 3, ground := Ground.guard }], guard := some (3, false) }) rfl (fun K hK => ?_) AllReadyH.nil)
      go_simp
      refine ((unhide CE) _).mono ?_; rintro e w' ⟨rfl, hb⟩
      try go_wp2_with fail
      refine hK.out _ _ (by (try dsimp only); first | assumption | exact s0 | exact keep9 (by assumption) (by assumption)) (fun hHeld => ?_)
      clear hK K
      try simp only [Act.put, List.setIfInBounds_toArray, List.set_cons_zero, List.set_cons_succ]
      refine wpAnyH_take (i := 11) (oi := { dst := some 19, op := Op.binOp BinOp.sub 3 (Operand.tmp 16) (Operand.tmp 18) 3, type := 3, pos := "l2_words.go:38", after := #[{ on := 8, ground := Ground.data }, { on := 10, ground := Ground.data }, { on := 3, ground := Ground.guard }], guard := some (3, false) }) (v := ?_) rfl (by kernel_rfl) (by kernel_rfl) (by kernel_rfl) (fun _ _ _ h => h) (Or.inl ⟨by rfl, ?_⟩) (by assumption) ?_; rotate_left
      · intro W hW; (try dsimp only at hW); go_simp;  try (with_reducible rfl)
      try simp only [Act.put, List.setIfInBounds_toArray, List.set_cons_zero, List.set_cons_succ]
      refine wpAnyH_take (i := 12) (oi := { dst := some 20, op := Op.binOp BinOp.gtr 3 (Operand.tmp 14) (Operand.tmp 19) 3, type := 4, pos := "l2_words.go:38", after := #[{ on := 6, ground := Ground.data }, { on := 11, ground := Ground.data }, { on := 3, ground := Ground.guard }], guard := some (3, false) }) (v := ?_) rfl (by kernel_rfl) (by kernel_rfl) (by kernel_rfl) (fun _ _ _ h => h) (Or.inl ⟨by rfl, ?_⟩) (by assumption) ?_; rotate_left
      · intro W hW; (try dsimp only at hW); go_simp;  try (with_reducible rfl)
      try simp only [Act.put, List.setIfInBounds_toArray, List.set_cons_zero, List.set_cons_succ]
      refine wpAnyH_take (i := 13) (oi := { dst := some 21, op := Op.pick (Operand.tmp 11) (Operand.const (Value.bool true)) (Operand.tmp 20), type := 4, pos := "l2_words.go:38", after := #[{ on := 3, ground := Ground.data }, { on := 12, ground := Ground.data }], guard := none }) (v := ?_) rfl (by kernel_rfl) (by kernel_rfl) (by kernel_rfl) (fun _ _ _ h => h) (Or.inl ⟨by rfl, ?_⟩) (by assumption) ?_; rotate_left
      · intro W hW; (try dsimp only at hW); go_simp;  try (with_reducible rfl)
      try simp only [Act.put, List.setIfInBounds_toArray, List.set_cons_zero, List.set_cons_succ]
      refine wpAnyH_done (by kernel_rfl) ?_ _
      go_wp2
      go_ret
      exact ⟨ret_bool HR.out.symm, hHeld.1⟩
    · have q1 : decide (Sx.two m - 1 - (Sx.two l + 1) < (ps.length : Int)) = false := decide_eq_false h1
      go_enter Try.func40, Try.ntmps40
      go_wp2_with fail
      refine wp_region_held_drew (S := (fun W => Below w.heap.size w W ∧ W.cell? ⟨w.heap.size, 0, none⟩ = some (.int .i64 o) ∧ W.cell? ⟨w.heap.size, 1, none⟩ = some (.int .i64 l) ∧ W.cell? ⟨w.heap.size, 2, none⟩ = some (.int .i64 m) ∧ W.cell? ⟨w.heap.size, 3, none⟩ = some (.slice A ps.length c) ∧ W.cell? ⟨w.heap.size, 4, none⟩ = some (.int .i64 b) ∧ W.cell? ⟨w.heap.size, 5, none⟩ = some (.int .i64 t) ∧ W.cell? ⟨w.heap.size + 1, 0, none⟩ = some (.int .i64 o) ∧ W.cell? ⟨w.heap.size + 1, 1, none⟩ = some (.int .i64 l) ∧ W.cell? ⟨w.heap.size + 1, 2, none⟩ = some (.int .i64 m))) (by kernel_rfl) (by first | assumption | exact s0 | exact keep9 (by assumption) (by assumption)) (fun hHeld => ?_)
      refine wpAnyH_take (i := 0) (oi := { dst := some 8, op := Op.load 28 (Operand.tmp 3), type := 28, pos := "l2_words.go:38", after := #[], guard := none }) (v := ?_) rfl (by kernel_rfl) (by kernel_rfl) (by kernel_rfl) (fun _ _ _ h => h) (Or.inl ⟨by rfl, ?_⟩) (by assumption) ?_; rotate_left
      · intro W hW; (try dsimp only at hW); go_simp;  try (with_reducible rfl)
      try simp only [Act.put, List.setIfInBounds_toArray, List.set_cons_zero, List.set_cons_succ]
      refine wpAnyH_ready (rs := [1]) (by kernel_rfl) (by simp) (AllReadyH.cons (i := 1) (o := { dst := some 9, op := Op.call { callee := Callee.value (Operand.func 39), args := #[Operand.tmp 8], argTypes := #[28] }, type := 4, pos := "l2_words.go:38", after := #[{ on := 0, ground := Ground.data }], guard := none }) rfl (fun K hK => ?_) AllReadyH.nil)
      go_simp
      refine ((unhide CV) _).mono ?_; rintro e w' ⟨rfl, hb⟩
      try go_wp2_with fail
      refine hK.out _ _ (by (try dsimp only); first | assumption | exact s0 | exact keep9 (by assumption) (by assumption)) (fun hHeld => ?_)
      clear hK K
      try simp only [Act.put, List.setIfInBounds_toArray, List.set_cons_zero, List.set_cons_succ]
      refine wpAnyH_take (i := 2) (oi := { dst := some 10, op := Op.unOp UnOp.not 4 (Operand.tmp 9), type := 4, pos := "l2_words.go:38", after := #[{ on := 1, ground := Ground.data }], guard := none }) (v := ?_) rfl (by kernel_rfl) (by kernel_rfl) (by kernel_rfl) (fun _ _ _ h => h) (Or.inl ⟨by rfl, ?_⟩) (by assumption) ?_; rotate_left
      · intro W hW; (try dsimp only at hW); go_simp;  try (with_reducible rfl)
      try simp only [Act.put, List.setIfInBounds_toArray, List.set_cons_zero, List.set_cons_succ]
      refine wpAnyH_take (i := 3) (oi := { dst := some 11, op := Op.move (Operand.tmp 10), type := 4, pos := "l2_words.go:38", after := #[{ on := 2, ground := Ground.data }, { on := 1, ground := Ground.chain }], guard := none }) (v := ?_) rfl (by kernel_rfl) (by kernel_rfl) (by kernel_rfl) (fun _ _ _ h => h) (Or.inl ⟨by rfl, ?_⟩) (by assumption) ?_; rotate_left
      · intro W hW; (try dsimp only at hW); go_simp;  try (with_reducible rfl)
      try simp only [Act.put, List.setIfInBounds_toArray, List.set_cons_zero, List.set_cons_succ]
      refine wpAnyH_take (i := 4) (oi := { dst := some 12, op := Op.fieldAddr 31 (Operand.tmp 1) 1, type := 0, pos := "l2_words.go:38", after := #[{ on := 3, ground := Ground.guard }], guard := some (3, false) }) (v := ?_) rfl (by kernel_rfl) (by kernel_rfl) (by kernel_rfl) (fun _ _ _ h => h) (Or.inl ⟨by rfl, ?_⟩) (by assumption) ?_; rotate_left
      · intro W hW; (try dsimp only at hW); go_simp;  try (with_reducible rfl)
      try simp only [Act.put, List.setIfInBounds_toArray, List.set_cons_zero, List.set_cons_succ]
      refine wpAnyH_take (i := 5) (oi := { dst := some 13, op := Op.load 29 (Operand.tmp 12), type := 29, pos := "l2_words.go:38", after := #[{ on := 4, ground := Ground.data }, { on := 3, ground := Ground.guard }], guard := some (3, false) }) (v := ?_) rfl (by kernel_rfl) (by kernel_rfl) (by kernel_rfl) (fun _ _ _ h => h) (Or.inl ⟨by rfl, ?_⟩) (by assumption) ?_; rotate_left
      · intro W hW; (try dsimp only at hW); go_simp;  try (with_reducible rfl)
      try simp only [Act.put, List.setIfInBounds_toArray, List.set_cons_zero, List.set_cons_succ]
      refine wpAnyH_take (i := 6) (oi := { dst := some 14, op := Op.call { callee := Callee.builtin Builtin.len, args := #[Operand.tmp 13], argTypes := #[29] }, type := 3, pos := "l2_words.go:38", after := #[{ on := 5, ground := Ground.data }, { on := 3, ground := Ground.guard }], guard := some (3, false) }) (v := ?_) rfl (by kernel_rfl) (by kernel_rfl) (by kernel_rfl) (fun _ _ _ h => h) (Or.inl ⟨by rfl, ?_⟩) (by assumption) ?_; rotate_left
      · intro W hW; (try dsimp only at hW); go_simp;  try (with_reducible rfl)
      try simp only [Act.put, List.setIfInBounds_toArray, List.set_cons_zero, List.set_cons_succ]
      refine wpAnyH_take (i := 7) (oi := { dst := some 15, op := Op.load 28 (Operand.tmp 3), type := 28, pos := "l2_words.go:38", after := #[{ on := 3, ground := Ground.guard }], guard := some (3, false) }) (v := ?_) rfl (by kernel_rfl) (by kernel_rfl) (by kernel_rfl) (fun _ _ _ h => h) (Or.inl ⟨by rfl, ?_⟩) (by assumption) ?_; rotate_left
      · intro W hW; (try dsimp only at hW); go_simp;  try (with_reducible rfl)
      try simp only [Act.put, List.setIfInBounds_toArray, List.set_cons_zero, List.set_cons_succ]
      refine wpAnyH_take (i := 9) (oi := { dst := some 17, op := Op.load 28 (Operand.tmp 3), type := 28, pos := "l2_words.go:38", after := #[{ on := 3, ground := Ground.guard }], guard := some (3, false) }) (v := ?_) rfl (by kernel_rfl) (by kernel_rfl) (by kernel_rfl) (fun _ _ _ h => h) (Or.inl ⟨by rfl, ?_⟩) (by assumption) ?_; rotate_left
      · intro W hW; (try dsimp only at hW); go_simp;  try (with_reducible rfl)
      try simp only [Act.put, List.setIfInBounds_toArray, List.set_cons_zero, List.set_cons_succ]
      refine wpAnyH_ready (rs := [8]) (by kernel_rfl) (by simp) (AllReadyH.cons (i := 8) (o := { dst := some 16, op := Op.call { callee := Callee.value (Operand.func 50), args := #[Operand.tmp 15], argTypes := #[28] }, type := 3, pos := "l2_words.go:38", after := #[{ on := 7, ground := Ground.data }, { on := 3, ground := Ground.chain }, { on := 3, ground := Ground.guard }], guard := some (3, false) }) rfl (fun K hK => ?_) AllReadyH.nil)
      go_simp
      refine ((unhide CL) _).mono ?_; rintro e w' ⟨rfl, hb⟩
      try go_wp2_with fail
      refine hK.out _ _ (by (try dsimp only); first | assumption | exact s0 | exact keep9 (by assumption) (by assumption)) (fun hHeld => ?_)
      clear hK K
      try simp only [Act.put, List.setIfInBounds_toArray, List.set_cons_zero, List.set_cons_succ]
      refine wpAnyH_ready (rs := [10]) (by kernel_rfl) (by simp) (AllReadyH.cons (i := 10) (o := { dst := some 18, op := Op.call { callee := Callee.value (Operand.func 34), args := #[Operand.tmp 17], argTypes := #[28] }, type := 3, pos := "l2_words.go:38", after := #[{ on := 9, ground := Ground.data }, { on := 8, ground := Ground.chain }, { on := 3, ground := Ground.guard }], guard := some (3, false) }) rfl (fun K hK => ?_) AllReadyH.nil)
      go_simp
      refine ((unhide CE) _).mono ?_; rintro e w' ⟨rfl, hb⟩
      try go_wp2_with fail
      refine hK.out _ _ (by (try dsimp only); first | assumption | exact s0 | exact keep9 (by assumption) (by assumption)) (fun hHeld => ?_)
      clear hK K
      try simp only [Act.put, List.setIfInBounds_toArray, List.set_cons_zero, List.set_cons_succ]
      refine wpAnyH_take (i := 11) (oi := { dst := some 19, op := Op.binOp BinOp.sub 3 (Operand.tmp 16) (Operand.tmp 18) 3, type := 3, pos := "l2_words.go:38", after := #[{ on := 8, ground := Ground.data }, { on := 10, ground := Ground.data }, { on := 3, ground := Ground.guard }], guard := some (3, false) }) (v := ?_) rfl (by kernel_rfl) (by kernel_rfl) (by kernel_rfl) (fun _ _ _ h => h) (Or.inl ⟨by rfl, ?_⟩) (by assumption) ?_; rotate_left
      · intro W hW; (try dsimp only at hW); go_simp;  try (with_reducible rfl)
      try simp only [Act.put, List.setIfInBounds_toArray, List.set_cons_zero, List.set_cons_succ]
      refine wpAnyH_take (i := 12) (oi := { dst := some 20, op := Op.binOp BinOp.gtr 3 (Operand.tmp 14) (Operand.tmp 19) 3, type := 4, pos := "l2_words.go:38", after := #[{ on := 6, ground := Ground.data }, { on := 11, ground := Ground.data }, { on := 3, ground := Ground.guard }], guard := some (3, false) }) (v := ?_) rfl (by kernel_rfl) (by kernel_rfl) (by kernel_rfl) (fun _ _ _ h => h) (Or.inl ⟨by rfl, ?_⟩) (by assumption) ?_; rotate_left
      · intro W hW; (try dsimp only at hW); go_simp;  try (with_reducible rfl)
      try simp only [Act.put, List.setIfInBounds_toArray, List.set_cons_zero, List.set_cons_succ]
      refine wpAnyH_take (i := 13) (oi := { dst := some 21, op := Op.pick (Operand.tmp 11) (Operand.const (Value.bool true)) (Operand.tmp 20), type := 4, pos := "l2_words.go:38", after := #[{ on := 3, ground := Ground.data }, { on := 12, ground := Ground.data }], guard := none }) (v := ?_) rfl (by kernel_rfl) (by kernel_rfl) (by kernel_rfl) (fun _ _ _ h => h) (Or.inl ⟨by rfl, ?_⟩) (by assumption) ?_; rotate_left
      · intro W hW; (try dsimp only at hW); go_simp;  try (with_reducible rfl)
      try simp only [Act.put, List.setIfInBounds_toArray, List.set_cons_zero, List.set_cons_succ]
      refine wpAnyH_done (by kernel_rfl) ?_ _
      have s1 := hHeld
      clear hHeld
      obtain ⟨hB, c0, c1, c2, c3, c4, c5, d0, d1, d2⟩ := s1
      have s1 : Below w.heap.size w w' ∧ w'.cell? ⟨w.heap.size, 0, none⟩ = some (.int .i64 o) ∧ w'.cell? ⟨w.heap.size, 1, none⟩ = some (.int .i64 l) ∧ w'.cell? ⟨w.heap.size, 2, none⟩ = some (.int .i64 m) ∧ w'.cell? ⟨w.heap.size, 3, none⟩ = some (.slice A ps.length c) ∧ w'.cell? ⟨w.heap.size, 4, none⟩ = some (.int .i64 b) ∧ w'.cell? ⟨w.heap.size, 5, none⟩ = some (.int .i64 t) ∧ w'.cell? ⟨w.heap.size + 1, 0, none⟩ = some (.int .i64 o) ∧ w'.cell? ⟨w.heap.size + 1, 1, none⟩ = some (.int .i64 l) ∧ w'.cell? ⟨w.heap.size + 1, 2, none⟩ = some (.int .i64 m) := ⟨hB, c0, c1, c2, c3, c4, c5, d0, d1, d2⟩
      go_wp2_with fail
      go_loopw [4, 5, 25] (fun _ _ i wr => ∃ k : Nat, k ≤ ps.length ∧ i = .int .i64 k ∧ Hid (Sx.pairsOK l ps k = true) ∧ Below w.heap.size w wr ∧ wr.cell? ⟨w.heap.size, 0, none⟩ = some (.int .i64 o) ∧ wr.cell? ⟨w.heap.size, 1, none⟩ = some (.int .i64 l) ∧ wr.cell? ⟨w.heap.size, 2, none⟩ = some (.int .i64 m) ∧ wr.cell? ⟨w.heap.size, 3, none⟩ = some (.slice A ps.length c) ∧ wr.cell? ⟨w.heap.size, 4, none⟩ = some (.int .i64 b) ∧ wr.cell? ⟨w.heap.size, 5, none⟩ = some (.int .i64 t) ∧ wr.cell? ⟨w.heap.size + 1, 0, none⟩ = some (.int .i64 o) ∧ wr.cell? ⟨w.heap.size + 1, 1, none⟩ = some (.int .i64 l) ∧ wr.cell? ⟨w.heap.size + 1, 2, none⟩ = some (.int .i64 m)) (fun _ _ i _ => ps.length - (intOf i).toNat)
      case atStart => exact ⟨0, Nat.zero_le _, rfl, rfl, s1⟩
      case round =>
        obtain ⟨k, hk, rfl, HP, hS⟩ := hrel
        obtain ⟨hB, c0, c1, c2, c3, c4, c5, d0, d1, d2⟩ := hS
        by_cases hlt : k < ps.length
        · obtain ⟨pg, po, rfl, hpg, hpc⟩ := hr (by omega)
          obtain ⟨px, hpx⟩ : ∃ x, x = (ps[k]).1 := ⟨_, rfl⟩
          obtain ⟨py, hpy⟩ : ∃ x, x = (ps[k]).2 := ⟨_, rfl⟩
          have hx := hpc k hlt
          rw [← hpx, ← hpy] at hx
          have x0 := (hB.cell (p := ⟨pg, po + k * 2, none⟩) hpg).trans hx.1
          have x1 := (hB.cell (p := ⟨pg, po + k * 2 + 1, none⟩) hpg).trans hx.2
          have HPX := hide hpx
          have HPY := hide hpy
          clear hpx hpy hx hpc hpg
          have kp := Blk.new wr 63 #[.int .i64 px, .int .i64 py]
          have s7 : Below w.heap.size w ((wr.alloc (.cells #[.int .i64 px, .int .i64 py] 63)).drew) ∧ ((wr.alloc (.cells #[.int .i64 px, .int .i64 py] 63)).drew).cell? ⟨w.heap.size, 0, none⟩ = some (.int .i64 o) ∧ ((wr.alloc (.cells #[.int .i64 px, .int .i64 py] 63)).drew).cell? ⟨w.heap.size, 1, none⟩ = some (.int .i64 l) ∧ ((wr.alloc (.cells #[.int .i64 px, .int .i64 py] 63)).drew).cell? ⟨w.heap.size, 2, none⟩ = some (.int .i64 m) ∧ ((wr.alloc (.cells #[.int .i64 px, .int .i64 py] 63)).drew).cell? ⟨w.heap.size, 3, none⟩ = some (.slice (some ⟨pg, po, none⟩) ps.length c) ∧ ((wr.alloc (.cells #[.int .i64 px, .int .i64 py] 63)).drew).cell? ⟨w.heap.size, 4, none⟩ = some (.int .i64 b) ∧ ((wr.alloc (.cells #[.int .i64 px, .int .i64 py] 63)).drew).cell? ⟨w.heap.size, 5, none⟩ = some (.int .i64 t) ∧ ((wr.alloc (.cells #[.int .i64 px, .int .i64 py] 63)).drew).cell? ⟨w.heap.size + 1, 0, none⟩ = some (.int .i64 o) ∧ ((wr.alloc (.cells #[.int .i64 px, .int .i64 py] 63)).drew).cell? ⟨w.heap.size + 1, 1, none⟩ = some (.int .i64 l) ∧ ((wr.alloc (.cells #[.int .i64 px, .int .i64 py] 63)).drew).cell? ⟨w.heap.size + 1, 2, none⟩ = some (.int .i64 m) ∧ ((wr.alloc (.cells #[.int .i64 px, .int .i64 py] 63)).drew).cell? ⟨wr.heap.size, 0, none⟩ = some (.int .i64 px) ∧ ((wr.alloc (.cells #[.int .i64 px, .int .i64 py] 63)).drew).cell? ⟨wr.heap.size, 1, none⟩ = some (.int .i64 py) := by
            obtain ⟨z, z0, z1, z2, z3, z4, z5, z6, z7, z8⟩ := keep9 ((Below.refl _ _).alloc (Nat.le_refl _) (.cells #[.int .i64 px, .int .i64 py] 63)) ⟨hB, c0, c1, c2, c3, c4, c5, d0, d1, d2⟩
            exact ⟨z.drew, z0, z1, z2, z3, z4, z5, z6, z7, z8, kp.cell 0, kp.cell 1⟩
          clear kp
          have i0 : (0 : Int) ≤ (k : Int) := Int.natCast_nonneg _
          have i1 : (k : Int) < (ps.length : Int) := by omega
          by_cases hc : Sx.codeB l k px = true
          · have C34 := hide (fun wx => by have := impl_hasWord o l m px k wx h0 (by omega); rwa [hc] at this)
            by_cases hy0 : py < 0
            · have q3 : decide (py < 0) = true := decide_eq_true hy0
              have HR := hide (Sx.kOK_pairs (o := o) (m := m) (b := b) (t := t) (Sx.pairsOK_bad hlt (Sx.pair_byte (show ¬ (0 ≤ (ps[k]).2 ∧ (ps[k]).2 < Sx.two l) by rw [← HPY.out]; omega))))
              clear hc hy0 hB
              go_wp2_with fail
              refine wp_region_held_drew (S := (fun W => Below w.heap.size w W ∧ W.cell? ⟨w.heap.size, 0, none⟩ = some (.int .i64 o) ∧ W.cell? ⟨w.heap.size, 1, none⟩ = some (.int .i64 l) ∧ W.cell? ⟨w.heap.size, 2, none⟩ = some (.int .i64 m) ∧ W.cell? ⟨w.heap.size, 3, none⟩ = some (.slice (some ⟨pg, po, none⟩) ps.length c) ∧ W.cell? ⟨w.heap.size, 4, none⟩ = some (.int .i64 b) ∧ W.cell? ⟨w.heap.size, 5, none⟩ = some (.int .i64 t) ∧ W.cell? ⟨w.heap.size + 1, 0, none⟩ = some (.int .i64 o) ∧ W.cell? ⟨w.heap.size + 1, 1, none⟩ = some (.int .i64 l) ∧ W.cell? ⟨w.heap.size + 1, 2, none⟩ = some (.int .i64 m) ∧ W.cell? ⟨wr.heap.size, 0, none⟩ = some (.int .i64 px) ∧ W.cell? ⟨wr.heap.size, 1, none⟩ = some (.int .i64 py))) (by kernel_rfl) (by first | assumption | exact s7 | exact keep11 (by assumption) (by assumption)) (fun hHeld => ?_)
              refine wpAnyH_take (i := 0) (oi := { dst := some 30, op := Op.load 28 (Operand.tmp 3), type := 28, pos := "l2_words.go:42", after := #[], guard := none }) (v := ?_) rfl (by kernel_rfl) (by kernel_rfl) (by kernel_rfl) (fun _ _ _ h => h) (Or.inl ⟨by rfl, ?_⟩) (by assumption) ?_; rotate_left
              · intro W hW; (try dsimp only at hW); go_simp;  try (with_reducible rfl)
              try simp only [Act.put, List.setIfInBounds_toArray, List.set_cons_zero, List.set_cons_succ]
              refine wpAnyH_take (i := 1) (oi := { dst := some 31, op := Op.move (Operand.tmp 4), type := 3, pos := "l2_words.go:42", after := #[], guard := none }) (v := ?_) rfl (by kernel_rfl) (by kernel_rfl) (by kernel_rfl) (fun _ _ _ h => h) (Or.inl ⟨by rfl, ?_⟩) (by assumption) ?_; rotate_left
              · intro W hW; (try dsimp only at hW); go_simp;  try (with_reducible rfl)
              try simp only [Act.put, List.setIfInBounds_toArray, List.set_cons_zero, List.set_cons_succ]
              refine wpAnyH_take (i := 2) (oi := { dst := some 32, op := Op.fieldAddr 63 (Operand.tmp 5) 0, type := 0, pos := "l2_words.go:42", after := #[], guard := none }) (v := ?_) rfl (by kernel_rfl) (by kernel_rfl) (by kernel_rfl) (fun _ _ _ h => h) (Or.inl ⟨by rfl, ?_⟩) (by assumption) ?_; rotate_left
              · intro W hW; (try dsimp only at hW); go_simp;  try (with_reducible rfl)
              try simp only [Act.put, List.setIfInBounds_toArray, List.set_cons_zero, List.set_cons_succ]
              refine wpAnyH_take (i := 3) (oi := { dst := some 33, op := Op.load 3 (Operand.tmp 32), type := 3, pos := "l2_words.go:42", after := #[{ on := 2, ground := Ground.data }], guard := none }) (v := ?_) rfl (by kernel_rfl) (by kernel_rfl) (by kernel_rfl) (fun _ _ _ h => h) (Or.inl ⟨by rfl, ?_⟩) (by assumption) ?_; rotate_left
              · intro W hW; (try dsimp only at hW); go_simp;  try (with_reducible rfl)
              try simp only [Act.put, List.setIfInBounds_toArray, List.set_cons_zero, List.set_cons_succ]
              refine wpAnyH_ready (rs := [4]) (by kernel_rfl) (by simp) (AllReadyH.cons (i := 4) (o := { dst := some 34, op := Op.call { callee := Callee.value (Operand.func 78), args := #[Operand.tmp 30, Operand.tmp 31, Operand.tmp 33], argTypes := #[28, 3, 3] }, type := 4, pos := "l2_words.go:42", after := #[{ on := 0, ground := Ground.data }, { on := 1, ground := Ground.data }, { on := 3, ground := Ground.data }], guard := none }) rfl (fun K hK => ?_) AllReadyH.nil)
              go_simp
              refine ((unhide C34) _).mono ?_; rintro e w' ⟨rfl, hb⟩
              try go_wp2_with fail
              refine hK.out _ _ (by (try dsimp only); first | assumption | exact s7 | exact keep11 (by assumption) (by assumption)) (fun hHeld => ?_)
              clear hK K
              try simp only [Act.put, List.setIfInBounds_toArray, List.set_cons_zero, List.set_cons_succ]
              refine wpAnyH_take (i := 5) (oi := { dst := some 35, op := Op.unOp UnOp.not 4 (Operand.tmp 34), type := 4, pos := "l2_words.go:42", after := #[{ on := 4, ground := Ground.data }], guard := none }) (v := ?_) rfl (by kernel_rfl) (by kernel_rfl) (by kernel_rfl) (fun _ _ _ h => h) (Or.inl ⟨by rfl, ?_⟩) (by assumption) ?_; rotate_left
              · intro W hW; (try dsimp only at hW); go_simp;  try (with_reducible rfl)
              try simp only [Act.put, List.setIfInBounds_toArray, List.set_cons_zero, List.set_cons_succ]
              refine wpAnyH_take (i := 6) (oi := { dst := some 36, op := Op.move (Operand.tmp 35), type := 4, pos := "l2_words.go:42", after := #[{ on := 5, ground := Ground.data }, { on := 4, ground := Ground.chain }], guard := none }) (v := ?_) rfl (by kernel_rfl) (by kernel_rfl) (by kernel_rfl) (fun _ _ _ h => h) (Or.inl ⟨by rfl, ?_⟩) (by assumption) ?_; rotate_left
              · intro W hW; (try dsimp only at hW); go_simp;  try (with_reducible rfl)
              try simp only [Act.put, List.setIfInBounds_toArray, List.set_cons_zero, List.set_cons_succ]
              refine wpAnyH_take (i := 7) (oi := { dst := some 37, op := Op.fieldAddr 63 (Operand.tmp 5) 1, type := 0, pos := "l2_words.go:42", after := #[{ on := 6, ground := Ground.guard }], guard := some (6, false) }) (v := ?_) rfl (by kernel_rfl) (by kernel_rfl) (by kernel_rfl) (fun _ _ _ h => h) (Or.inl ⟨by rfl, ?_⟩) (by assumption) ?_; rotate_left
              · intro W hW; (try dsimp only at hW); go_simp;  try (with_reducible rfl)
              try simp only [Act.put, List.setIfInBounds_toArray, List.set_cons_zero, List.set_cons_succ]
              refine wpAnyH_take (i := 8) (oi := { dst := some 38, op := Op.load 3 (Operand.tmp 37), type := 3, pos := "l2_words.go:42", after := #[{ on := 7, ground := Ground.data }, { on := 6, ground := Ground.guard }], guard := some (6, false) }) (v := ?_) rfl (by kernel_rfl) (by kernel_rfl) (by kernel_rfl) (fun _ _ _ h => h) (Or.inl ⟨by rfl, ?_⟩) (by assumption) ?_; rotate_left
              · intro W hW; (try dsimp only at hW); go_simp;  try (with_reducible rfl)
              try simp only [Act.put, List.setIfInBounds_toArray, List.set_cons_zero, List.set_cons_succ]
              refine wpAnyH_take (i := 9) (oi := { dst := some 39, op := Op.binOp BinOp.lss 3 (Operand.tmp 38) (Operand.const (Value.int IntKind.i64 0)) 3, type := 4, pos := "l2_words.go:42", after := #[{ on := 8, ground := Ground.data }, { on := 6, ground := Ground.guard }], guard := some (6, false) }) (v := ?_) rfl (by kernel_rfl) (by kernel_rfl) (by kernel_rfl) (fun _ _ _ h => h) (Or.inl ⟨by rfl, ?_⟩) (by assumption) ?_; rotate_left
              · intro W hW; (try dsimp only at hW); go_simp;  try (with_reducible rfl)
              try simp only [Act.put, List.setIfInBounds_toArray, List.set_cons_zero, List.set_cons_succ]
              refine wpAnyH_take (i := 10) (oi := { dst := some 40, op := Op.pick (Operand.tmp 36) (Operand.const (Value.bool true)) (Operand.tmp 39), type := 4, pos := "l2_words.go:42", after := #[{ on := 6, ground := Ground.data }, { on := 9, ground := Ground.data }], guard := none }) (v := ?_) rfl (by kernel_rfl) (by kernel_rfl) (by kernel_rfl) (fun _ _ _ h => h) (Or.inl ⟨by rfl, ?_⟩) (by assumption) ?_; rotate_left
              · intro W hW; (try dsimp only at hW); go_simp;  try (with_reducible rfl)
              try simp only [Act.put, List.setIfInBounds_toArray, List.set_cons_zero, List.set_cons_succ]
              refine wpAnyH_take (i := 11) (oi := { dst := some 41, op := Op.move (Operand.tmp 40), type := 4, pos := "l2_words.go:42", after := #[{ on := 10, ground := Ground.data }, { on := 6, ground := Ground.chain }], guard := none }) (v := ?_) rfl (by kernel_rfl) (by kernel_rfl) (by kernel_rfl) (fun _ _ _ h => h) (Or.inl ⟨by rfl, ?_⟩) (by assumption) ?_; rotate_left
              · intro W hW; (try dsimp only at hW); go_simp;  try (with_reducible rfl)
              try simp only [Act.put, List.setIfInBounds_toArray, List.set_cons_zero, List.set_cons_succ]
              refine wpAnyH_take (i := 12) (oi := { dst := some 42, op := Op.fieldAddr 63 (Operand.tmp 5) 1, type := 0, pos := "l2_words.go:42", after := #[{ on := 11, ground := Ground.guard }], guard := some (11, false) }) rfl (by kernel_rfl) (by kernel_rfl) (by kernel_rfl) (fun _ _ _ h => h) (Or.inr ⟨by rfl, rfl⟩) (by assumption) ?_
              try simp only [Act.put, List.setIfInBounds_toArray, List.set_cons_zero, List.set_cons_succ]
              refine wpAnyH_take (i := 13) (oi := { dst := some 43, op := Op.load 3 (Operand.tmp 42), type := 3, pos := "l2_words.go:42", after := #[{ on := 12, ground := Ground.data }, { on := 11, ground := Ground.guard }], guard := some (11, false) }) rfl (by kernel_rfl) (by kernel_rfl) (by kernel_rfl) (fun _ _ _ h => h) (Or.inr ⟨by rfl, rfl⟩) (by assumption) ?_
              try simp only [Act.put, List.setIfInBounds_toArray, List.set_cons_zero, List.set_cons_succ]
              refine wpAnyH_take (i := 14) (oi := { dst := some 44, op := Op.load 28 (Operand.tmp 3), type := 28, pos := "l2_words.go:42", after := #[{ on := 11, ground := Ground.guard }], guard := some (11, false) }) rfl (by kernel_rfl) (by kernel_rfl) (by kernel_rfl) (fun _ _ _ h => h) (Or.inr ⟨by rfl, rfl⟩) (by assumption) ?_
              try simp only [Act.put, List.setIfInBounds_toArray, List.set_cons_zero, List.set_cons_succ]
              refine wpAnyH_take (i := 15) (oi := { dst := some 45, op := Op.call { callee := Callee.value (Operand.func 47), args := #[Operand.tmp 44], argTypes := #[28] }, type := 3, pos := "l2_words.go:42", after := #[{ on := 14, ground := Ground.data }, { on := 11, ground := Ground.chain }, { on := 11, ground := Ground.guard }], guard := some (11, false) }) rfl (by kernel_rfl) (by kernel_rfl) (by kernel_rfl) (fun _ _ _ h => h) (Or.inr ⟨by rfl, rfl⟩) (by assumption) ?_
              try simp only [Act.put, List.setIfInBounds_toArray, List.set_cons_zero, List.set_cons_succ]
              refine wpAnyH_take (i := 16) (oi := { dst := some 46, op := Op.binOp BinOp.geq 3 (Operand.tmp 43) (Operand.tmp 45) 3, type := 4, pos := "l2_words.go:42", after := #[{ on := 13, ground := Ground.data }, { on := 15, ground := Ground.data }, { on := 11, ground := Ground.guard }], guard := some (11, false) }) rfl (by kernel_rfl) (by kernel_rfl) (by kernel_rfl) (fun _ _ _ h => h) (Or.inr ⟨by rfl, rfl⟩) (by assumption) ?_
              try simp only [Act.put, List.setIfInBounds_toArray, List.set_cons_zero, List.set_cons_succ]
              refine wpAnyH_take (i := 17) (oi := { dst := some 47, op := Op.pick (Operand.tmp 41) (Operand.const (Value.bool true)) (Operand.tmp 46), type := 4, pos := "l2_words.go:42", after := #[{ on := 11, ground := Ground.data }, { on := 16, ground := Ground.data }], guard := none }) (v := ?_) rfl (by kernel_rfl) (by kernel_rfl) (by kernel_rfl) (fun _ _ _ h => h) (Or.inl ⟨by rfl, ?_⟩) (by assumption) ?_; rotate_left
              · intro W hW; (try dsimp only at hW); go_simp;  try (with_reducible rfl)
              try simp only [Act.put, List.setIfInBounds_toArray, List.set_cons_zero, List.set_cons_succ]
              refine wpAnyH_done (by kernel_rfl) ?_ _
              go_wp2
              go_ret
              exact ⟨ret_bool HR.out.symm, hHeld.1⟩
            · have q3 : decide (py < 0) = false := decide_eq_false hy0
              by_cases hy1 : Sx.two l ≤ py
              · have q4 : decide (Sx.two l ≤ py) = true := decide_eq_true hy1
                have HR := hide (Sx.kOK_pairs (o := o) (m := m) (b := b) (t := t) (Sx.pairsOK_bad hlt (Sx.pair_byte (show ¬ (0 ≤ (ps[k]).2 ∧ (ps[k]).2 < Sx.two l) by rw [← HPY.out]; omega))))
                clear hc hy0 hB
                go_wp2_with fail
                refine wp_region_held_drew (S := (fun W => Below w.heap.size w W ∧ W.cell? ⟨w.heap.size, 0, none⟩ = some (.int .i64 o) ∧ W.cell? ⟨w.heap.size, 1, none⟩ = some (.int .i64 l) ∧ W.cell? ⟨w.heap.size, 2, none⟩ = some (.int .i64 m) ∧ W.cell? ⟨w.heap.size, 3, none⟩ = some (.slice (some ⟨pg, po, none⟩) ps.length c) ∧ W.cell? ⟨w.heap.size, 4, none⟩ = some (.int .i64 b) ∧ W.cell? ⟨w.heap.size, 5, none⟩ = some (.int .i64 t) ∧ W.cell? ⟨w.heap.size + 1, 0, none⟩ = some (.int .i64 o) ∧ W.cell? ⟨w.heap.size + 1, 1, none⟩ = some (.int .i64 l) ∧ W.cell? ⟨w.heap.size + 1, 2, none⟩ = some (.int .i64 m) ∧ W.cell? ⟨wr.heap.size, 0, none⟩ = some (.int .i64 px) ∧ W.cell? ⟨wr.heap.size, 1, none⟩ = some (.int .i64 py))) (by kernel_rfl) (by first | assumption | exact s7 | exact keep11 (by assumption) (by assumption)) (fun hHeld => ?_)
                refine wpAnyH_take (i := 0) (oi := { dst := some 30, op := Op.load 28 (Operand.tmp 3), type := 28, pos := "l2_words.go:42", after := #[], guard := none }) (v := ?_) rfl (by kernel_rfl) (by kernel_rfl) (by kernel_rfl) (fun _ _ _ h => h) (Or.inl ⟨by rfl, ?_⟩) (by assumption) ?_; rotate_left
                · intro W hW; (try dsimp only at hW); go_simp;  try (with_reducible rfl)
                try simp only [Act.put, List.setIfInBounds_toArray, List.set_cons_zero, List.set_cons_succ]
                refine wpAnyH_take (i := 1) (oi := { dst := some 31, op := Op.move (Operand.tmp 4), type := 3, pos := "l2_words.go:42", after := #[], guard := none }) (v := ?_) rfl (by kernel_rfl) (by kernel_rfl) (by kernel_rfl) (fun _ _ _ h => h) (Or.inl ⟨by rfl, ?_⟩) (by assumption) ?_; rotate_left
                · intro W hW; (try dsimp only at hW); go_simp;  try (with_reducible rfl)
                try simp only [Act.put, List.setIfInBounds_toArray, List.set_cons_zero, List.set_cons_succ]
                refine wpAnyH_take (i := 2) (oi := { dst := some 32, op := Op.fieldAddr 63 (Operand.tmp 5) 0, type := 0, pos := "l2_words.go:42", after := #[], guard := none }) (v := ?_) rfl (by kernel_rfl) (by kernel_rfl) (by kernel_rfl) (fun _ _ _ h => h) (Or.inl ⟨by rfl, ?_⟩) (by assumption) ?_; rotate_left
                · intro W hW; (try dsimp only at hW); go_simp;  try (with_reducible rfl)
                try simp only [Act.put, List.setIfInBounds_toArray, List.set_cons_zero, List.set_cons_succ]
                refine wpAnyH_take (i := 3) (oi := { dst := some 33, op := Op.load 3 (Operand.tmp 32), type := 3, pos := "l2_words.go:42", after := #[{ on := 2, ground := Ground.data }], guard := none }) (v := ?_) rfl (by kernel_rfl) (by kernel_rfl) (by kernel_rfl) (fun _ _ _ h => h) (Or.inl ⟨by rfl, ?_⟩) (by assumption) ?_; rotate_left
                · intro W hW; (try dsimp only at hW); go_simp;  try (with_reducible rfl)
                try simp only [Act.put, List.setIfInBounds_toArray, List.set_cons_zero, List.set_cons_succ]
                refine wpAnyH_ready (rs := [4]) (by kernel_rfl) (by simp) (AllReadyH.cons (i := 4) (o := { dst := some 34, op := Op.call { callee := Callee.value (Operand.func 78), args := #[Operand.tmp 30, Operand.tmp 31, Operand.tmp 33], argTypes := #[28, 3, 3] }, type := 4, pos := "l2_words.go:42", after := #[{ on := 0, ground := Ground.data }, { on := 1, ground := Ground.data }, { on := 3, ground := Ground.data }], guard := none }) rfl (fun K hK => ?_) AllReadyH.nil)
                go_simp
                refine ((unhide C34) _).mono ?_; rintro e w' ⟨rfl, hb⟩
                try go_wp2_with fail
                refine hK.out _ _ (by (try dsimp only); first | assumption | exact s7 | exact keep11 (by assumption) (by assumption)) (fun hHeld => ?_)
                clear hK K
                try simp only [Act.put, List.setIfInBounds_toArray, List.set_cons_zero, List.set_cons_succ]
                refine wpAnyH_take (i := 5) (oi := { dst := some 35, op := Op.unOp UnOp.not 4 (Operand.tmp 34), type := 4, pos := "l2_words.go:42", after := #[{ on := 4, ground := Ground.data }], guard := none }) (v := ?_) rfl (by kernel_rfl) (by kernel_rfl) (by kernel_rfl) (fun _ _ _ h => h) (Or.inl ⟨by rfl, ?_⟩) (by assumption) ?_; rotate_left
                · intro W hW; (try dsimp only at hW); go_simp;  try (with_reducible rfl)
                try simp only [Act.put, List.setIfInBounds_toArray, List.set_cons_zero, List.set_cons_succ]
                refine wpAnyH_take (i := 6) (oi := { dst := some 36, op := Op.move (Operand.tmp 35), type := 4, pos := "l2_words.go:42", after := #[{ on := 5, ground := Ground.data }, { on := 4, ground := Ground.chain }], guard := none }) (v := ?_) rfl (by kernel_rfl) (by kernel_rfl) (by kernel_rfl) (fun _ _ _ h => h) (Or.inl ⟨by rfl, ?_⟩) (by assumption) ?_; rotate_left
                · intro W hW; (try dsimp only at hW); go_simp;  try (with_reducible rfl)
                try simp only [Act.put, List.setIfInBounds_toArray, List.set_cons_zero, List.set_cons_succ]
                refine wpAnyH_take (i := 7) (oi := { dst := some 37, op := Op.fieldAddr 63 (Operand.tmp 5) 1, type := 0, pos := "l2_words.go:42", after := #[{ on := 6, ground := Ground.guard }], guard := some (6, false) }) (v := ?_) rfl (by kernel_rfl) (by kernel_rfl) (by kernel_rfl) (fun _ _ _ h => h) (Or.inl ⟨by rfl, ?_⟩) (by assumption) ?_; rotate_left
                · intro W hW; (try dsimp only at hW); go_simp;  try (with_reducible rfl)
                try simp only [Act.put, List.setIfInBounds_toArray, List.set_cons_zero, List.set_cons_succ]
                refine wpAnyH_take (i := 8) (oi := { dst := some 38, op := Op.load 3 (Operand.tmp 37), type := 3, pos := "l2_words.go:42", after := #[{ on := 7, ground := Ground.data }, { on := 6, ground := Ground.guard }], guard := some (6, false) }) (v := ?_) rfl (by kernel_rfl) (by kernel_rfl) (by kernel_rfl) (fun _ _ _ h => h) (Or.inl ⟨by rfl, ?_⟩) (by assumption) ?_; rotate_left
                · intro W hW; (try dsimp only at hW); go_simp;  try (with_reducible rfl)
                try simp only [Act.put, List.setIfInBounds_toArray, List.set_cons_zero, List.set_cons_succ]
                refine wpAnyH_take (i := 9) (oi := { dst := some 39, op := Op.binOp BinOp.lss 3 (Operand.tmp 38) (Operand.const (Value.int IntKind.i64 0)) 3, type := 4, pos := "l2_words.go:42", after := #[{ on := 8, ground := Ground.data }, { on := 6, ground := Ground.guard }], guard := some (6, false) }) (v := ?_) rfl (by kernel_rfl) (by kernel_rfl) (by kernel_rfl) (fun _ _ _ h => h) (Or.inl ⟨by rfl, ?_⟩) (by assumption) ?_; rotate_left
                · intro W hW; (try dsimp only at hW); go_simp;  try (with_reducible rfl)
                try simp only [Act.put, List.setIfInBounds_toArray, List.set_cons_zero, List.set_cons_succ]
                refine wpAnyH_take (i := 10) (oi := { dst := some 40, op := Op.pick (Operand.tmp 36) (Operand.const (Value.bool true)) (Operand.tmp 39), type := 4, pos := "l2_words.go:42", after := #[{ on := 6, ground := Ground.data }, { on := 9, ground := Ground.data }], guard := none }) (v := ?_) rfl (by kernel_rfl) (by kernel_rfl) (by kernel_rfl) (fun _ _ _ h => h) (Or.inl ⟨by rfl, ?_⟩) (by assumption) ?_; rotate_left
                · intro W hW; (try dsimp only at hW); go_simp;  try (with_reducible rfl)
                try simp only [Act.put, List.setIfInBounds_toArray, List.set_cons_zero, List.set_cons_succ]
                refine wpAnyH_take (i := 11) (oi := { dst := some 41, op := Op.move (Operand.tmp 40), type := 4, pos := "l2_words.go:42", after := #[{ on := 10, ground := Ground.data }, { on := 6, ground := Ground.chain }], guard := none }) (v := ?_) rfl (by kernel_rfl) (by kernel_rfl) (by kernel_rfl) (fun _ _ _ h => h) (Or.inl ⟨by rfl, ?_⟩) (by assumption) ?_; rotate_left
                · intro W hW; (try dsimp only at hW); go_simp;  try (with_reducible rfl)
                try simp only [Act.put, List.setIfInBounds_toArray, List.set_cons_zero, List.set_cons_succ]
                refine wpAnyH_take (i := 12) (oi := { dst := some 42, op := Op.fieldAddr 63 (Operand.tmp 5) 1, type := 0, pos := "l2_words.go:42", after := #[{ on := 11, ground := Ground.guard }], guard := some (11, false) }) (v := ?_) rfl (by kernel_rfl) (by kernel_rfl) (by kernel_rfl) (fun _ _ _ h => h) (Or.inl ⟨by rfl, ?_⟩) (by assumption) ?_; rotate_left
                · intro W hW; (try dsimp only at hW); go_simp;  try (with_reducible rfl)
                try simp only [Act.put, List.setIfInBounds_toArray, List.set_cons_zero, List.set_cons_succ]
                refine wpAnyH_take (i := 13) (oi := { dst := some 43, op := Op.load 3 (Operand.tmp 42), type := 3, pos := "l2_words.go:42", after := #[{ on := 12, ground := Ground.data }, { on := 11, ground := Ground.guard }], guard := some (11, false) }) (v := ?_) rfl (by kernel_rfl) (by kernel_rfl) (by kernel_rfl) (fun _ _ _ h => h) (Or.inl ⟨by rfl, ?_⟩) (by assumption) ?_; rotate_left
                · intro W hW; (try dsimp only at hW); go_simp;  try (with_reducible rfl)
                try simp only [Act.put, List.setIfInBounds_toArray, List.set_cons_zero, List.set_cons_succ]
                refine wpAnyH_take (i := 14) (oi := { dst := some 44, op := Op.load 28 (Operand.tmp 3), type := 28, pos := "l2_words.go:42", after := #[{ on := 11, ground := Ground.guard }], guard := some (11, false) }) (v := ?_) rfl (by kernel_rfl) (by kernel_rfl) (by kernel_rfl) (fun _ _ _ h => h) (Or.inl ⟨by rfl, ?_⟩) (by assumption) ?_; rotate_left
                · intro W hW; (try dsimp only at hW); go_simp;  try (with_reducible rfl)
                try simp only [Act.put, List.setIfInBounds_toArray, List.set_cons_zero, List.set_cons_succ]
                refine wpAnyH_ready (rs := [15]) (by kernel_rfl) (by simp) (AllReadyH.cons (i := 15) (o := { dst := some 45, op := Op.call { callee := Callee.value (Operand.func 47), args := #[Operand.tmp 44], argTypes := #[28] }, type := 3, pos := "l2_words.go:42", after := #[{ on := 14, ground := Ground.data }, { on := 11, ground := Ground.chain }, { on := 11, ground := Ground.guard }], guard := some (11, false) }) rfl (fun K hK => ?_) AllReadyH.nil)
                go_simp
                refine ((unhide CC) _).mono ?_; rintro e w' ⟨rfl, hb⟩
                try go_wp2_with fail
                refine hK.out _ _ (by (try dsimp only); first | assumption | exact s7 | exact keep11 (by assumption) (by assumption)) (fun hHeld => ?_)
                clear hK K
                try simp only [Act.put, List.setIfInBounds_toArray, List.set_cons_zero, List.set_cons_succ]
                refine wpAnyH_take (i := 16) (oi := { dst := some 46, op := Op.binOp BinOp.geq 3 (Operand.tmp 43) (Operand.tmp 45) 3, type := 4, pos := "l2_words.go:42", after := #[{ on := 13, ground := Ground.data }, { on := 15, ground := Ground.data }, { on := 11, ground := Ground.guard }], guard := some (11, false) }) (v := ?_) rfl (by kernel_rfl) (by kernel_rfl) (by kernel_rfl) (fun _ _ _ h => h) (Or.inl ⟨by rfl, ?_⟩) (by assumption) ?_; rotate_left
                · intro W hW; (try dsimp only at hW); go_simp;  try (with_reducible rfl)
                try simp only [Act.put, List.setIfInBounds_toArray, List.set_cons_zero, List.set_cons_succ]
                refine wpAnyH_take (i := 17) (oi := { dst := some 47, op := Op.pick (Operand.tmp 41) (Operand.const (Value.bool true)) (Operand.tmp 46), type := 4, pos := "l2_words.go:42", after := #[{ on := 11, ground := Ground.data }, { on := 16, ground := Ground.data }], guard := none }) (v := ?_) rfl (by kernel_rfl) (by kernel_rfl) (by kernel_rfl) (fun _ _ _ h => h) (Or.inl ⟨by rfl, ?_⟩) (by assumption) ?_; rotate_left
                · intro W hW; (try dsimp only at hW); go_simp;  try (with_reducible rfl)
                try simp only [Act.put, List.setIfInBounds_toArray, List.set_cons_zero, List.set_cons_succ]
                refine wpAnyH_done (by kernel_rfl) ?_ _
                go_wp2
                go_ret
                exact ⟨ret_bool HR.out.symm, hHeld.1⟩
              · have q4 : decide (Sx.two l ≤ py) = false := decide_eq_false hy1
                have HN := hide (Sx.pairsOK_succ hlt HP.out (Sx.pair_yes (by rw [← HPX.out]; exact hc) (show 0 ≤ (ps[k]).2 ∧ (ps[k]).2 < Sx.two l by rw [← HPY.out]; omega)))
                clear hc hy0 hB
                go_wp2_with fail
                refine wp_region_held_drew (S := (fun W => Below w.heap.size w W ∧ W.cell? ⟨w.heap.size, 0, none⟩ = some (.int .i64 o) ∧ W.cell? ⟨w.heap.size, 1, none⟩ = some (.int .i64 l) ∧ W.cell? ⟨w.heap.size, 2, none⟩ = some (.int .i64 m) ∧ W.cell? ⟨w.heap.size, 3, none⟩ = some (.slice (some ⟨pg, po, none⟩) ps.length c) ∧ W.cell? ⟨w.heap.size, 4, none⟩ = some (.int .i64 b) ∧ W.cell? ⟨w.heap.size, 5, none⟩ = some (.int .i64 t) ∧ W.cell? ⟨w.heap.size + 1, 0, none⟩ = some (.int .i64 o) ∧ W.cell? ⟨w.heap.size + 1, 1, none⟩ = some (.int .i64 l) ∧ W.cell? ⟨w.heap.size + 1, 2, none⟩ = some (.int .i64 m) ∧ W.cell? ⟨wr.heap.size, 0, none⟩ = some (.int .i64 px) ∧ W.cell? ⟨wr.heap.size, 1, none⟩ = some (.int .i64 py))) (by kernel_rfl) (by first | assumption | exact s7 | exact keep11 (by assumption) (by assumption)) (fun hHeld => ?_)
                refine wpAnyH_take (i := 0) (oi := { dst := some 30, op := Op.load 28 (Operand.tmp 3), type := 28, pos := "l2_words.go:42", after := #[], guard := none }) (v := ?_) rfl (by kernel_rfl) (by kernel_rfl) (by kernel_rfl) (fun _ _ _ h => h) (Or.inl ⟨by rfl, ?_⟩) (by assumption) ?_; rotate_left
                · intro W hW; (try dsimp only at hW); go_simp;  try (with_reducible rfl)
                try simp only [Act.put, List.setIfInBounds_toArray, List.set_cons_zero, List.set_cons_succ]
                refine wpAnyH_take (i := 1) (oi := { dst := some 31, op := Op.move (Operand.tmp 4), type := 3, pos := "l2_words.go:42", after := #[], guard := none }) (v := ?_) rfl (by kernel_rfl) (by kernel_rfl) (by kernel_rfl) (fun _ _ _ h => h) (Or.inl ⟨by rfl, ?_⟩) (by assumption) ?_; rotate_left
                · intro W hW; (try dsimp only at hW); go_simp;  try (with_reducible rfl)
                try simp only [Act.put, List.setIfInBounds_toArray, List.set_cons_zero, List.set_cons_succ]
                refine wpAnyH_take (i := 2) (oi := { dst := some 32, op := Op.fieldAddr 63 (Operand.tmp 5) 0, type := 0, pos := "l2_words.go:42", after := #[], guard := none }) (v := ?_) rfl (by kernel_rfl) (by kernel_rfl) (by kernel_rfl) (fun _ _ _ h => h) (Or.inl ⟨by rfl, ?_⟩) (by assumption) ?_; rotate_left
                · intro W hW; (try dsimp only at hW); go_simp;  try (with_reducible rfl)
                try simp only [Act.put, List.setIfInBounds_toArray, List.set_cons_zero, List.set_cons_succ]
                refine wpAnyH_take (i := 3) (oi := { dst := some 33, op := Op.load 3 (Operand.tmp 32), type := 3, pos := "l2_words.go:42", after := #[{ on := 2, ground := Ground.data }], guard := none }) (v := ?_) rfl (by kernel_rfl) (by kernel_rfl) (by kernel_rfl) (fun _ _ _ h => h) (Or.inl ⟨by rfl, ?_⟩) (by assumption) ?_; rotate_left
                · intro W hW; (try dsimp only at hW); go_simp;  try (with_reducible rfl)
                try simp only [Act.put, List.setIfInBounds_toArray, List.set_cons_zero, List.set_cons_succ]
                refine wpAnyH_ready (rs := [4]) (by kernel_rfl) (by simp) (AllReadyH.cons (i := 4) (o := { dst := some 34, op := Op.call { callee := Callee.value (Operand.func 78), args := #[Operand.tmp 30, Operand.tmp 31, Operand.tmp 33], argTypes := #[28, 3, 3] }, type := 4, pos := "l2_words.go:42", after := #[{ on := 0, ground := Ground.data }, { on := 1, ground := Ground.data }, { on := 3, ground := Ground.data }], guard := none }) rfl (fun K hK => ?_) AllReadyH.nil)
                go_simp
                refine ((unhide C34) _).mono ?_; rintro e w' ⟨rfl, hb⟩
                try go_wp2_with fail
                refine hK.out _ _ (by (try dsimp only); first | assumption | exact s7 | exact keep11 (by assumption) (by assumption)) (fun hHeld => ?_)
                clear hK K
                try simp only [Act.put, List.setIfInBounds_toArray, List.set_cons_zero, List.set_cons_succ]
                refine wpAnyH_take (i := 5) (oi := { dst := some 35, op := Op.unOp UnOp.not 4 (Operand.tmp 34), type := 4, pos := "l2_words.go:42", after := #[{ on := 4, ground := Ground.data }], guard := none }) (v := ?_) rfl (by kernel_rfl) (by kernel_rfl) (by kernel_rfl) (fun _ _ _ h => h) (Or.inl ⟨by rfl, ?_⟩) (by assumption) ?_; rotate_left
                · intro W hW; (try dsimp only at hW); go_simp;  try (with_reducible rfl)
                try simp only [Act.put, List.setIfInBounds_toArray, List.set_cons_zero, List.set_cons_succ]
                refine wpAnyH_take (i := 6) (oi := { dst := some 36, op := Op.move (Operand.tmp 35), type := 4, pos := "l2_words.go:42", after := #[{ on := 5, ground := Ground.data }, { on := 4, ground := Ground.chain }], guard := none }) (v := ?_) rfl (by kernel_rfl) (by kernel_rfl) (by kernel_rfl) (fun _ _ _ h => h) (Or.inl ⟨by rfl, ?_⟩) (by assumption) ?_; rotate_left
                · intro W hW; (try dsimp only at hW); go_simp;  try (with_reducible rfl)
                try simp only [Act.put, List.setIfInBounds_toArray, List.set_cons_zero, List.set_cons_succ]
                refine wpAnyH_take (i := 7) (oi := { dst := some 37, op := Op.fieldAddr 63 (Operand.tmp 5) 1, type := 0, pos := "l2_words.go:42", after := #[{ on := 6, ground := Ground.guard }], guard := some (6, false) }) (v := ?_) rfl (by kernel_rfl) (by kernel_rfl) (by kernel_rfl) (fun _ _ _ h => h) (Or.inl ⟨by rfl, ?_⟩) (by assumption) ?_; rotate_left
                · intro W hW; (try dsimp only at hW); go_simp;  try (with_reducible rfl)
                try simp only [Act.put, List.setIfInBounds_toArray, List.set_cons_zero, List.set_cons_succ]
                refine wpAnyH_take (i := 8) (oi := { dst := some 38, op := Op.load 3 (Operand.tmp 37), type := 3, pos := "l2_words.go:42", after := #[{ on := 7, ground := Ground.data }, { on := 6, ground := Ground.guard }], guard := some (6, false) }) (v := ?_) rfl (by kernel_rfl) (by kernel_rfl) (by kernel_rfl) (fun _ _ _ h => h) (Or.inl ⟨by rfl, ?_⟩) (by assumption) ?_; rotate_left
                · intro W hW; (try dsimp only at hW); go_simp;  try (with_reducible rfl)
                try simp only [Act.put, List.setIfInBounds_toArray, List.set_cons_zero, List.set_cons_succ]
                refine wpAnyH_take (i := 9) (oi := { dst := some 39, op := Op.binOp BinOp.lss 3 (Operand.tmp 38) (Operand.const (Value.int IntKind.i64 0)) 3, type := 4, pos := "l2_words.go:42", after := #[{ on := 8, ground := Ground.data }, { on := 6, ground := Ground.guard }], guard := some (6, false) }) (v := ?_) rfl (by kernel_rfl) (by kernel_rfl) (by kernel_rfl) (fun _ _ _ h => h) (Or.inl ⟨by rfl, ?_⟩) (by assumption) ?_; rotate_left
                · intro W hW; (try dsimp only at hW); go_simp;  try (with_reducible rfl)
                try simp only [Act.put, List.setIfInBounds_toArray, List.set_cons_zero, List.set_cons_succ]
                refine wpAnyH_take (i := 10) (oi := { dst := some 40, op := Op.pick (Operand.tmp 36) (Operand.const (Value.bool true)) (Operand.tmp 39), type := 4, pos := "l2_words.go:42", after := #[{ on := 6, ground := Ground.data }, { on := 9, ground := Ground.data }], guard := none }) (v := ?_) rfl (by kernel_rfl) (by kernel_rfl) (by kernel_rfl) (fun _ _ _ h => h) (Or.inl ⟨by rfl, ?_⟩) (by assumption) ?_; rotate_left
                · intro W hW; (try dsimp only at hW); go_simp;  try (with_reducible rfl)
                try simp only [Act.put, List.setIfInBounds_toArray, List.set_cons_zero, List.set_cons_succ]
                refine wpAnyH_take (i := 11) (oi := { dst := some 41, op := Op.move (Operand.tmp 40), type := 4, pos := "l2_words.go:42", after := #[{ on := 10, ground := Ground.data }, { on := 6, ground := Ground.chain }], guard := none }) (v := ?_) rfl (by kernel_rfl) (by kernel_rfl) (by kernel_rfl) (fun _ _ _ h => h) (Or.inl ⟨by rfl, ?_⟩) (by assumption) ?_; rotate_left
                · intro W hW; (try dsimp only at hW); go_simp;  try (with_reducible rfl)
                try simp only [Act.put, List.setIfInBounds_toArray, List.set_cons_zero, List.set_cons_succ]
                refine wpAnyH_take (i := 12) (oi := { dst := some 42, op := Op.fieldAddr 63 (Operand.tmp 5) 1, type := 0, pos := "l2_words.go:42", after := #[{ on := 11, ground := Ground.guard }], guard := some (11, false) }) (v := ?_) rfl (by kernel_rfl) (by kernel_rfl) (by kernel_rfl) (fun _ _ _ h => h) (Or.inl ⟨by rfl, ?_⟩) (by assumption) ?_; rotate_left
                · intro W hW; (try dsimp only at hW); go_simp;  try (with_reducible rfl)
                try simp only [Act.put, List.setIfInBounds_toArray, List.set_cons_zero, List.set_cons_succ]
                refine wpAnyH_take (i := 13) (oi := { dst := some 43, op := Op.load 3 (Operand.tmp 42), type := 3, pos := "l2_words.go:42", after := #[{ on := 12, ground := Ground.data }, { on := 11, ground := Ground.guard }], guard := some (11, false) }) (v := ?_) rfl (by kernel_rfl) (by kernel_rfl) (by kernel_rfl) (fun _ _ _ h => h) (Or.inl ⟨by rfl, ?_⟩) (by assumption) ?_; rotate_left
                · intro W hW; (try dsimp only at hW); go_simp;  try (with_reducible rfl)
                try simp only [Act.put, List.setIfInBounds_toArray, List.set_cons_zero, List.set_cons_succ]
                refine wpAnyH_take (i := 14) (oi := { dst := some 44, op := Op.load 28 (Operand.tmp 3), type := 28, pos := "l2_words.go:42", after := #[{ on := 11, ground := Ground.guard }], guard := some (11, false) }) (v := ?_) rfl (by kernel_rfl) (by kernel_rfl) (by kernel_rfl) (fun _ _ _ h => h) (Or.inl ⟨by rfl, ?_⟩) (by assumption) ?_; rotate_left
                · intro W hW; (try dsimp only at hW); go_simp;  try (with_reducible rfl)
                try simp only [Act.put, List.setIfInBounds_toArray, List.set_cons_zero, List.set_cons_succ]
                refine wpAnyH_ready (rs := [15]) (by kernel_rfl) (by simp) (AllReadyH.cons (i := 15) (o := { dst := some 45, op := Op.call { callee := Callee.value (Operand.func 47), args := #[Operand.tmp 44], argTypes := #[28] }, type := 3, pos := "l2_words.go:42", after := #[{ on := 14, ground := Ground.data }, { on := 11, ground := Ground.chain }, { on := 11, ground := Ground.guard }], guard := some (11, false) }) rfl (fun K hK => ?_) AllReadyH.nil)
                go_simp
                refine ((unhide CC) _).mono ?_; rintro e w' ⟨rfl, hb⟩
                try go_wp2_with fail
                refine hK.out _ _ (by (try dsimp only); first | assumption | exact s7 | exact keep11 (by assumption) (by assumption)) (fun hHeld => ?_)
                clear hK K
                try simp only [Act.put, List.setIfInBounds_toArray, List.set_cons_zero, List.set_cons_succ]
                refine wpAnyH_take (i := 16) (oi := { dst := some 46, op := Op.binOp BinOp.geq 3 (Operand.tmp 43) (Operand.tmp 45) 3, type := 4, pos := "l2_words.go:42", after := #[{ on := 13, ground := Ground.data }, { on := 15, ground := Ground.data }, { on := 11, ground := Ground.guard }], guard := some (11, false) }) (v := ?_) rfl (by kernel_rfl) (by kernel_rfl) (by kernel_rfl) (fun _ _ _ h => h) (Or.inl ⟨by rfl, ?_⟩) (by assumption) ?_; rotate_left
                · intro W hW; (try dsimp only at hW); go_simp;  try (with_reducible rfl)
                try simp only [Act.put, List.setIfInBounds_toArray, List.set_cons_zero, List.set_cons_succ]
                refine wpAnyH_take (i := 17) (oi := { dst := some 47, op := Op.pick (Operand.tmp 41) (Operand.const (Value.bool true)) (Operand.tmp 46), type := 4, pos := "l2_words.go:42", after := #[{ on := 11, ground := Ground.data }, { on := 16, ground := Ground.data }], guard := none }) (v := ?_) rfl (by kernel_rfl) (by kernel_rfl) (by kernel_rfl) (fun _ _ _ h => h) (Or.inl ⟨by rfl, ?_⟩) (by assumption) ?_; rotate_left
                · intro W hW; (try dsimp only at hW); go_simp;  try (with_reducible rfl)
                try simp only [Act.put, List.setIfInBounds_toArray, List.set_cons_zero, List.set_cons_succ]
                refine wpAnyH_done (by kernel_rfl) ?_ _
                clear c0 c1 c2 c3 c4 c5 d0 d1 d2 s7 x0 x1
                go_wp2_with fail
                go_roundw
                case rel => exact ⟨k + 1, by omega, by go_num, HN, hHeld.1, hHeld.2.1, hHeld.2.2.1, hHeld.2.2.2.1, hHeld.2.2.2.2.1, hHeld.2.2.2.2.2.1, hHeld.2.2.2.2.2.2.1, hHeld.2.2.2.2.2.2.2.1, hHeld.2.2.2.2.2.2.2.2.1, hHeld.2.2.2.2.2.2.2.2.2.1⟩
                case measure => simp [intOf]; omega
          · have hc : Sx.codeB l k px = false := by simpa using hc
            have C34 := hide (fun wx => by have := impl_hasWord o l m px k wx h0 (by omega); rwa [hc] at this)
            have HR := hide (Sx.kOK_pairs (o := o) (m := m) (b := b) (t := t) (Sx.pairsOK_bad hlt (Sx.pair_code (by rw [← HPX.out]; exact hc))))
            clear hc hB
            go_wp2_with fail
            refine wp_region_held_drew (S := (fun W => Below w.heap.size w W ∧ W.cell? ⟨w.heap.size, 0, none⟩ = some (.int .i64 o) ∧ W.cell? ⟨w.heap.size, 1, none⟩ = some (.int .i64 l) ∧ W.cell? ⟨w.heap.size, 2, none⟩ = some (.int .i64 m) ∧ W.cell? ⟨w.heap.size, 3, none⟩ = some (.slice (some ⟨pg, po, none⟩) ps.length c) ∧ W.cell? ⟨w.heap.size, 4, none⟩ = some (.int .i64 b) ∧ W.cell? ⟨w.heap.size, 5, none⟩ = some (.int .i64 t) ∧ W.cell? ⟨w.heap.size + 1, 0, none⟩ = some (.int .i64 o) ∧ W.cell? ⟨w.heap.size + 1, 1, none⟩ = some (.int .i64 l) ∧ W.cell? ⟨w.heap.size + 1, 2, none⟩ = some (.int .i64 m) ∧ W.cell? ⟨wr.heap.size, 0, none⟩ = some (.int .i64 px) ∧ W.cell? ⟨wr.heap.size, 1, none⟩ = some (.int .i64 py))) (by kernel_rfl) (by first | assumption | exact s7 | exact keep11 (by assumption) (by assumption)) (fun hHeld => ?_)
            refine wpAnyH_take (i := 0) (oi := { dst := some 30, op := Op.load 28 (Operand.tmp 3), type := 28, pos := "l2_words.go:42", after := #[], guard := none }) (v := ?_) rfl (by kernel_rfl) (by kernel_rfl) (by kernel_rfl) (fun _ _ _ h => h) (Or.inl ⟨by rfl, ?_⟩) (by assumption) ?_; rotate_left
            · intro W hW; (try dsimp only at hW); go_simp;  try (with_reducible rfl)
            try simp only [Act.put, List.setIfInBounds_toArray, List.set_cons_zero, List.set_cons_succ]
            refine wpAnyH_take (i := 1) (oi := { dst := some 31, op := Op.move (Operand.tmp 4), type := 3, pos := "l2_words.go:42", after := #[], guard := none }) (v := ?_) rfl (by kernel_rfl) (by kernel_rfl) (by kernel_rfl) (fun _ _ _ h => h) (Or.inl ⟨by rfl, ?_⟩) (by assumption) ?_; rotate_left
            · intro W hW; (try dsimp only at hW); go_simp;  try (with_reducible rfl)
            try simp only [Act.put, List.setIfInBounds_toArray, List.set_cons_zero, List.set_cons_succ]
            refine wpAnyH_take (i := 2) (oi := { dst := some 32, op := Op.fieldAddr 63 (Operand.tmp 5) 0, type := 0, pos := "l2_words.go:42", after := #[], guard := none }) (v := ?_) rfl (by kernel_rfl) (by kernel_rfl) (by kernel_rfl) (fun _ _ _ h => h) (Or.inl ⟨by rfl, ?_⟩) (by assumption) ?_; rotate_left
            · intro W hW; (try dsimp only at hW); go_simp;  try (with_reducible rfl)
            try simp only [Act.put, List.setIfInBounds_toArray, List.set_cons_zero, List.set_cons_succ]
            refine wpAnyH_take (i := 3) (oi := { dst := some 33, op := Op.load 3 (Operand.tmp 32), type := 3, pos := "l2_words.go:42", after := #[{ on := 2, ground := Ground.data }], guard := none }) (v := ?_) rfl (by kernel_rfl) (by kernel_rfl) (by kernel_rfl) (fun _ _ _ h => h) (Or.inl ⟨by rfl, ?_⟩) (by assumption) ?_; rotate_left
            · intro W hW; (try dsimp only at hW); go_simp;  try (with_reducible rfl)
            try simp only [Act.put, List.setIfInBounds_toArray, List.set_cons_zero, List.set_cons_succ]
            refine wpAnyH_ready (rs := [4]) (by kernel_rfl) (by simp) (AllReadyH.cons (i := 4) (o := { dst := some 34, op := Op.call { callee := Callee.value (Operand.func 78), args := #[Operand.tmp 30, Operand.tmp 31, Operand.tmp 33], argTypes := #[28, 3, 3] }, type := 4, pos := "l2_words.go:42", after := #[{ on := 0, ground := Ground.data }, { on := 1, ground := Ground.data }, { on := 3, ground := Ground.data }], guard := none }) rfl (fun K hK => ?_) AllReadyH.nil)
            go_simp
            refine ((unhide C34) _).mono ?_; rintro e w' ⟨rfl, hb⟩
            try go_wp2_with fail
            refine hK.out _ _ (by (try dsimp only); first | assumption | exact s7 | exact keep11 (by assumption) (by assumption)) (fun hHeld => ?_)
            clear hK K
            try simp only [Act.put, List.setIfInBounds_toArray, List.set_cons_zero, List.set_cons_succ]
            refine wpAnyH_take (i := 5) (oi := { dst := some 35, op := Op.unOp UnOp.not 4 (Operand.tmp 34), type := 4, pos := "l2_words.go:42", after := #[{ on := 4, ground := Ground.data }], guard := none }) (v := ?_) rfl (by kernel_rfl) (by kernel_rfl) (by kernel_rfl) (fun _ _ _ h => h) (Or.inl ⟨by rfl, ?_⟩) (by assumption) ?_; rotate_left
            · intro W hW; (try dsimp only at hW); go_simp;  try (with_reducible rfl)
            try simp only [Act.put, List.setIfInBounds_toArray, List.set_cons_zero, List.set_cons_succ]
            refine wpAnyH_take (i := 6) (oi := { dst := some 36, op := Op.move (Operand.tmp 35), type := 4, pos := "l2_words.go:42", after := #[{ on := 5, ground := Ground.data }, { on := 4, ground := Ground.chain }], guard := none }) (v := ?_) rfl (by kernel_rfl) (by kernel_rfl) (by kernel_rfl) (fun _ _ _ h => h) (Or.inl ⟨by rfl, ?_⟩) (by assumption) ?_; rotate_left
            · intro W hW; (try dsimp only at hW); go_simp;  try (with_reducible rfl)
            try simp only [Act.put, List.setIfInBounds_toArray, List.set_cons_zero, List.set_cons_succ]
            refine wpAnyH_take (i := 7) (oi := { dst := some 37, op := Op.fieldAddr 63 (Operand.tmp 5) 1, type := 0, pos := "l2_words.go:42", after := #[{ on := 6, ground := Ground.guard }], guard := some (6, false) }) rfl (by kernel_rfl) (by kernel_rfl) (by kernel_rfl) (fun _ _ _ h => h) (Or.inr ⟨by rfl, rfl⟩) (by assumption) ?_
            try simp only [Act.put, List.setIfInBounds_toArray, List.set_cons_zero, List.set_cons_succ]
            refine wpAnyH_take (i := 8) (oi := { dst := some 38, op := Op.load 3 (Operand.tmp 37), type := 3, pos := "l2_words.go:42", after := #[{ on := 7, ground := Ground.data }, { on := 6, ground := Ground.guard }], guard := some (6, false) }) rfl (by kernel_rfl) (by kernel_rfl) (by kernel_rfl) (fun _ _ _ h => h) (Or.inr ⟨by rfl, rfl⟩) (by assumption) ?_
            try simp only [Act.put, List.setIfInBounds_toArray, List.set_cons_zero, List.set_cons_succ]
            refine wpAnyH_take (i := 9) (oi := { dst := some 39, op := Op.binOp BinOp.lss 3 (Operand.tmp 38) (Operand.const (Value.int IntKind.i64 0)) 3, type := 4, pos := "l2_words.go:42", after := #[{ on := 8, ground := Ground.data }, { on := 6, ground := Ground.guard }], guard := some (6, false) }) rfl (by kernel_rfl) (by kernel_rfl) (by kernel_rfl) (fun _ _ _ h => h) (Or.inr ⟨by rfl, rfl⟩) (by assumption) ?_
            try simp only [Act.put, List.setIfInBounds_toArray, List.set_cons_zero, List.set_cons_succ]
            refine wpAnyH_take (i := 10) (oi := { dst := some 40, op := Op.pick (Operand.tmp 36) (Operand.const (Value.bool true)) (Operand.tmp 39), type := 4, pos := "l2_words.go:42", after := #[{ on := 6, ground := Ground.data }, { on := 9, ground := Ground.data }], guard := none }) (v := ?_) rfl (by kernel_rfl) (by kernel_rfl) (by kernel_rfl) (fun _ _ _ h => h) (Or.inl ⟨by rfl, ?_⟩) (by assumption) ?_; rotate_left
            · intro W hW; (try dsimp only at hW); go_simp;  try (with_reducible rfl)
            try simp only [Act.put, List.setIfInBounds_toArray, List.set_cons_zero, List.set_cons_succ]
            refine wpAnyH_take (i := 11) (oi := { dst := some 41, op := Op.move (Operand.tmp 40), type := 4, pos := "l2_words.go:42", after := #[{ on := 10, ground := Ground.data }, { on := 6, ground := Ground.chain }], guard := none }) (v := ?_) rfl (by kernel_rfl) (by kernel_rfl) (by kernel_rfl) (fun _ _ _ h => h) (Or.inl ⟨by rfl, ?_⟩) (by assumption) ?_; rotate_left
            · intro W hW; (try dsimp only at hW); go_simp;  try (with_reducible rfl)
            try simp only [Act.put, List.setIfInBounds_toArray, List.set_cons_zero, List.set_cons_succ]
            refine wpAnyH_take (i := 12) (oi := { dst := some 42, op := Op.fieldAddr 63 (Operand.tmp 5) 1, type := 0, pos := "l2_words.go:42", after := #[{ on := 11, ground := Ground.guard }], guard := some (11, false) }) rfl (by kernel_rfl) (by kernel_rfl) (by kernel_rfl) (fun _ _ _ h => h) (Or.inr ⟨by rfl, rfl⟩) (by assumption) ?_
            try simp only [Act.put, List.setIfInBounds_toArray, List.set_cons_zero, List.set_cons_succ]
            refine wpAnyH_take (i := 13) (oi := { dst := some 43, op := Op.load 3 (Operand.tmp 42), type := 3, pos := "l2_words.go:42", after := #[{ on := 12, ground := Ground.data }, { on := 11, ground := Ground.guard }], guard := some (11, false) }) rfl (by kernel_rfl) (by kernel_rfl) (by kernel_rfl) (fun _ _ _ h => h) (Or.inr ⟨by rfl, rfl⟩) (by assumption) ?_
            try simp only [Act.put, List.setIfInBounds_toArray, List.set_cons_zero, List.set_cons_succ]
            refine wpAnyH_take (i := 14) (oi := { dst := some 44, op := Op.load 28 (Operand.tmp 3), type := 28, pos := "l2_words.go:42", after := #[{ on := 11, ground := Ground.guard }], guard := some (11, false) }) rfl (by kernel_rfl) (by kernel_rfl) (by kernel_rfl) (fun _ _ _ h => h) (Or.inr ⟨by rfl, rfl⟩) (by assumption) ?_
            try simp only [Act.put, List.setIfInBounds_toArray, List.set_cons_zero, List.set_cons_succ]
            refine wpAnyH_take (i := 15) (oi := { dst := some 45, op := Op.call { callee := Callee.value (Operand.func 47), args := #[Operand.tmp 44], argTypes := #[28] }, type := 3, pos := "l2_words.go:42", after := #[{ on := 14, ground := Ground.data }, { on := 11, ground := Ground.chain }, { on := 11, ground := Ground.guard }], guard := some (11, false) }) rfl (by kernel_rfl) (by kernel_rfl) (by kernel_rfl) (fun _ _ _ h => h) (Or.inr ⟨by rfl, rfl⟩) (by assumption) ?_
            try simp only [Act.put, List.setIfInBounds_toArray, List.set_cons_zero, List.set_cons_succ]
            refine wpAnyH_take (i := 16) (oi := { dst := some 46, op := Op.binOp BinOp.geq 3 (Operand.tmp 43) (Operand.tmp 45) 3, type := 4, pos := "l2_words.go:42", after := #[{ on := 13, ground := Ground.data }, { on := 15, ground := Ground.data }, { on := 11, ground := Ground.guard }], guard := some (11, false) }) rfl (by kernel_rfl) (by kernel_rfl) (by kernel_rfl) (fun _ _ _ h => h) (Or.inr ⟨by rfl, rfl⟩) (by assumption) ?_
            try simp only [Act.put, List.setIfInBounds_toArray, List.set_cons_zero, List.set_cons_succ]
            refine wpAnyH_take (i := 17) (oi := { dst := some 47, op := Op.pick (Operand.tmp 41) (Operand.const (Value.bool true)) (Operand.tmp 46), type := 4, pos := "l2_words.go:42", after := #[{ on := 11, ground := Ground.data }, { on := 16, ground := Ground.data }], guard := none }) (v := ?_) rfl (by kernel_rfl) (by kernel_rfl) (by kernel_rfl) (fun _ _ _ h => h) (Or.inl ⟨by rfl, ?_⟩) (by assumption) ?_; rotate_left
            · intro W hW; (try dsimp only at hW); go_simp;  try (with_reducible rfl)
            try simp only [Act.put, List.setIfInBounds_toArray, List.set_cons_zero, List.set_cons_succ]
            refine wpAnyH_done (by kernel_rfl) ?_ _
            go_wp2
            go_ret
            exact ⟨ret_bool HR.out.symm, hHeld.1⟩
        · obtain rfl : k = ps.length := by omega
          by_cases h2 : 0 ≤ b ∧ b ≤ (ps.length : Int)
          · have HL := hide (Sx.kOK_last (t := t) h0 (by omega) h2 HP.out)
            have p1 : ¬ b < 0 := by omega
            have p2 : ¬ (ps.length : Int) < b := by omega
            by_cases ht : t = -1
            · subst ht
              have HV := hide (show (b == (ps.length : Int)) = Sx.kOK o l m ps b (-1) by rw [HL.out, Sx.code_neg]; simp [beqI])
              go_wp2_with fail
              go_ret
              exact ⟨ret_bool HV.out, hB⟩
            · have q4 : (t == -1) = false := by simpa using ht
              have HV := hide (show Sx.kOK o l m ps b t = Sx.codeB l ps.length t by rw [HL.out, decide_eq_false ht]; simp)
              have C75 := hide (fun wx => impl_hasWord o l m t ps.length wx h0 (by omega))
              clear ht
              go_wp2_with fail
              refine ((unhide C75) _).mono ?_; rintro e w' ⟨rfl, hb⟩
              go_wp2_with fail
              go_ret
              exact ⟨ret_bool HV.out.symm, below_next (Nat.le_refl _) hB hb⟩
          · have HR := hide (Sx.kOK_base (o := o) (l := l) (m := m) (t := t) h2)
            by_cases p1 : b < 0
            · go_wp2_with fail
              go_ret
              exact ⟨ret_bool HR.out.symm, hB⟩
            · have p2 : (ps.length : Int) < b := by omega
              go_wp2_with fail
              go_ret
              exact ⟨ret_bool HR.out.symm, hB⟩
  · have h0 : Sx.setOK o l m = false := by simpa using h0
    have HR := hide (Sx.kOK_set (ps := ps) (b := b) (t := t) h0)
    rw [h0] at CV
    go_enter Try.func40, Try.ntmps40
    go_wp2_with fail
    refine wp_region_held_drew (S := (fun W => Below w.heap.size w W ∧ W.cell? ⟨w.heap.size, 0, none⟩ = some (.int .i64 o) ∧ W.cell? ⟨w.heap.size, 1, none⟩ = some (.int .i64 l) ∧ W.cell? ⟨w.heap.size, 2, none⟩ = some (.int .i64 m) ∧ W.cell? ⟨w.heap.size, 3, none⟩ = some (.slice A ps.length c) ∧ W.cell? ⟨w.heap.size, 4, none⟩ = some (.int .i64 b) ∧ W.cell? ⟨w.heap.size, 5, none⟩ = some (.int .i64 t) ∧ W.cell? ⟨w.heap.size + 1, 0, none⟩ = some (.int .i64 o) ∧ W.cell? ⟨w.heap.size + 1, 1, none⟩ = some (.int .i64 l) ∧ W.cell? ⟨w.heap.size + 1, 2, none⟩ = some (.int .i64 m))) (by kernel_rfl) (by first | assumption | exact s0 | exact keep9 (by assumption) (by assumption)) (fun hHeld => ?_)
    refine wpAnyH_take (i := 0) (oi := { dst := some 8, op := Op.load 28 (Operand.tmp 3), type := 28, pos := "l2_words.go:38", after := #[], guard := none }) (v := ?_) rfl (by kernel_rfl) (by kernel_rfl) (by kernel_rfl) (fun _ _ _ h => h) (Or.inl ⟨by rfl, ?_⟩) (by assumption) ?_; rotate_left
    · intro W hW; (try dsimp only at hW); go_simp;  try (with_reducible rfl)
    try simp only [Act.put, List.setIfInBounds_toArray, List.set_cons_zero, List.set_cons_succ]
    refine wpAnyH_ready (rs := [1]) (by kernel_rfl) (by simp) (AllReadyH.cons (i := 1) (o := { dst := some 9, op := Op.call { callee := Callee.value (Operand.func 39), args := #[Operand.tmp 8], argTypes := #[28] }, type := 4, pos := "l2_words.go:38", after := #[{ on := 0, ground := Ground.data }], guard := none }) rfl (fun K hK => ?_) AllReadyH.nil)
    go_simp
    refine ((unhide CV) _).mono ?_; rintro e w' ⟨rfl, hb⟩
    try go_wp2_with fail
    refine hK.out _ _ (by (try dsimp only); first | assumption | exact s0 | exact keep9 (by assumption) (by assumption)) (fun hHeld => ?_)
    clear hK K
    try simp only [Act.put, List.setIfInBounds_toArray, List.set_cons_zero, List.set_cons_succ]
    refine wpAnyH_take (i := 2) (oi := { dst := some 10, op := Op.unOp UnOp.not 4 (Operand.tmp 9), type := 4, pos := "l2_words.go:38", after := #[{ on := 1, ground := Ground.data }], guard := none }) (v := ?_) rfl (by kernel_rfl) (by kernel_rfl) (by kernel_rfl) (fun _ _ _ h => h) (Or.inl ⟨by rfl, ?_⟩) (by assumption) ?_; rotate_left
    · intro W hW; (try dsimp only at hW); go_simp;  try (with_reducible rfl)
    try simp only [Act.put, List.setIfInBounds_toArray, List.set_cons_zero, List.set_cons_succ]
    refine wpAnyH_take (i := 3) (oi := { dst := some 11, op := Op.move (Operand.tmp 10), type := 4, pos := "l2_words.go:38", after := #[{ on := 2, ground := Ground.data }, { on := 1, ground := Ground.chain }], guard := none }) (v := ?_) rfl (by kernel_rfl) (by kernel_rfl) (by kernel_rfl) (fun _ _ _ h => h) (Or.inl ⟨by rfl, ?_⟩) (by assumption) ?_; rotate_left
    · intro W hW; (try dsimp only at hW); go_simp;  try (with_reducible rfl)
    try simp only [Act.put, List.setIfInBounds_toArray, List.set_cons_zero, List.set_cons_succ]
    refine wpAnyH_take (i := 4) (oi := { dst := some 12, op := Op.fieldAddr 31 (Operand.tmp 1) 1, type := 0, pos := "l2_words.go:38", after := #[{ on := 3, ground := Ground.guard }], guard := some (3, false) }) rfl (by kernel_rfl) (by kernel_rfl) (by kernel_rfl) (fun _ _ _ h => h) (Or.inr ⟨by rfl, rfl⟩) (by assumption) ?_
    try simp only [Act.put, List.setIfInBounds_toArray, List.set_cons_zero, List.set_cons_succ]
    refine wpAnyH_take (i := 5) (oi := { dst := some 13, op := Op.load 29 (Operand.tmp 12), type := 29, pos := "l2_words.go:38", after := #[{ on := 4, ground := Ground.data }, { on := 3, ground := Ground.guard }], guard := some (3, false) }) rfl (by kernel_rfl) (by kernel_rfl) (by kernel_rfl) (fun _ _ _ h => h) (Or.inr ⟨by rfl, rfl⟩) (by assumption) ?_
    try simp only [Act.put, List.setIfInBounds_toArray, List.set_cons_zero, List.set_cons_succ]
    refine wpAnyH_take (i := 6) (oi := { dst := some 14, op := Op.call { callee := Callee.builtin Builtin.len, args := #[Operand.tmp 13], argTypes := #[29] }, type := 3, pos := "l2_words.go:38", after := #[{ on := 5, ground := Ground.data }, { on := 3, ground := Ground.guard }], guard := some (3, false) }) rfl (by kernel_rfl) (by kernel_rfl) (by kernel_rfl) (fun _ _ _ h => h) (Or.inr ⟨by rfl, rfl⟩) (by assumption) ?_
    try simp only [Act.put, List.setIfInBounds_toArray, List.set_cons_zero, List.set_cons_succ]
    refine wpAnyH_take (i := 7) (oi := { dst := some 15, op := Op.load 28 (Operand.tmp 3), type := 28, pos := "l2_words.go:38", after := #[{ on := 3, ground := Ground.guard }], guard := some (3, false) }) rfl (by kernel_rfl) (by kernel_rfl) (by kernel_rfl) (fun _ _ _ h => h) (Or.inr ⟨by rfl, rfl⟩) (by assumption) ?_
    try simp only [Act.put, List.setIfInBounds_toArray, List.set_cons_zero, List.set_cons_succ]
    refine wpAnyH_take (i := 8) (oi := { dst := some 16, op := Op.call { callee := Callee.value (Operand.func 50), args := #[Operand.tmp 15], argTypes := #[28] }, type := 3, pos := "l2_words.go:38", after := #[{ on := 7, ground := Ground.data }, { on := 3, ground := Ground.chain }, { on := 3, ground := Ground.guard }], guard := some (3, false) }) rfl (by kernel_rfl) (by kernel_rfl) (by kernel_rfl) (fun _ _ _ h => h) (Or.inr ⟨by rfl, rfl⟩) (by assumption) ?_
    try simp only [Act.put, List.setIfInBounds_toArray, List.set_cons_zero, List.set_cons_succ]
    refine wpAnyH_take (i := 9) (oi := { dst := some 17, op := Op.load 28 (Operand.tmp 3), type := 28, pos := "l2_words.go:38", after := #[{ on := 3, ground := Ground.guard }], guard := some (3, false) }) rfl (by kernel_rfl) (by kernel_rfl) (by kernel_rfl) (fun _ _ _ h => h) (Or.inr ⟨by rfl, rfl⟩) (by assumption) ?_
    try simp only [Act.put, List.setIfInBounds_toArray, List.set_cons_zero, List.set_cons_succ]
    refine wpAnyH_take (i := 10) (oi := { dst := some 18, op := Op.call { callee := Callee.value (Operand.func 34), args := #[Operand.tmp 17], argTypes := #[28] }, type := 3, pos := "l2_words.go:38", after := #[{ on := 9, ground := Ground.data }, { on := 8, ground := Ground.chain }, { on := 3, ground := Ground.guard }], guard := some (3, false) }) rfl (by kernel_rfl) (by kernel_rfl) (by kernel_rfl) (fun _ _ _ h => h) (Or.inr ⟨by rfl, rfl⟩) (by assumption) ?_
    try simp only [Act.put, List.setIfInBounds_toArray, List.set_cons_zero, List.set_cons_succ]
    refine wpAnyH_take (i := 11) (oi := { dst := some 19, op := Op.binOp BinOp.sub 3 (Operand.tmp 16) (Operand.tmp 18) 3, type := 3, pos := "l2_words.go:38", after := #[{ on := 8, ground := Ground.data }, { on := 10, ground := Ground.data }, { on := 3, ground := Ground.guard }], guard := some (3, false) }) rfl (by kernel_rfl) (by kernel_rfl) (by kernel_rfl) (fun _ _ _ h => h) (Or.inr ⟨by rfl, rfl⟩) (by assumption) ?_
    try simp only [Act.put, List.setIfInBounds_toArray, List.set_cons_zero, List.set_cons_succ]
    refine wpAnyH_take (i := 12) (oi := { dst := some 20, op := Op.binOp BinOp.gtr 3 (Operand.tmp 14) (Operand.tmp 19) 3, type := 4, pos := "l2_words.go:38", after := #[{ on := 6, ground := Ground.data }, { on := 11, ground := Ground.data }, { on := 3, ground := Ground.guard }], guard := some (3, false) }) rfl (by kernel_rfl) (by kernel_rfl) (by kernel_rfl) (fun _ _ _ h => h) (Or.inr ⟨by rfl, rfl⟩) (by assumption) ?_
    try simp only [Act.put, List.setIfInBounds_toArray, List.set_cons_zero, List.set_cons_succ]
    refine wpAnyH_take (i := 13) (oi := { dst := some 21, op := Op.pick (Operand.tmp 11) (Operand.const (Value.bool true)) (Operand.tmp 20), type := 4, pos := "l2_words.go:38", after := #[{ on := 3, ground := Ground.data }, { on := 12, ground := Ground.data }], guard := none }) (v := ?_) rfl (by kernel_rfl) (by kernel_rfl) (by kernel_rfl) (fun _ _ _ h => h) (Or.inl ⟨by rfl, ?_⟩) (by assumption) ?_; rotate_left
    · intro W hW; (try dsimp only at hW); go_simp;  try (with_reducible rfl)
    try simp only [Act.put, List.setIfInBounds_toArray, List.set_cons_zero, List.set_cons_succ]
    refine wpAnyH_done (by kernel_rfl) ?_ _
    go_wp2
    go_ret
    exact ⟨ret_bool HR.out.symm, hHeld.1⟩
end Go.Proofs.Ytegfcpdkehgdpaa

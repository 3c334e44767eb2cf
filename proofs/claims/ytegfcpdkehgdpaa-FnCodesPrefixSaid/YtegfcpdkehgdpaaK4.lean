/- The walks of the next word, the greatest code and the width of codes. Conditions: a setting that is valid, few pairs. -/
import Derived.Test.YtegfcpdkehgdpaaK3
namespace Go.Proofs.Ytegfcpdkehgdpaa
open Go.RowKit

/-- Does the next code add a word? -/
def Sx.growsB (l m : Int) (n : Nat) (t : Int) : Bool := decide (0 ≤ t ∧ Sx.two l + 2 + (n : Int) ≤ Sx.two m - 1)
def Sx.greatI (l m : Int) (n : Nat) (t : Int) : Int := if Sx.growsB l m n t = true then Sx.two l + 2 + (n : Int) else Sx.two l + 1 + (n : Int)
def Sx.widthI (l m : Int) (n : Nat) (t : Int) : Int := max (l + 1) (Sx.needI (Sx.greatI l m n t))
theorem Sx.great_yes {l m : Int} {n : Nat} {t : Int} (h : Sx.growsB l m n t = true) : Sx.greatI l m n t = Sx.two l + 2 + (n : Int) := if_pos h
theorem Sx.great_no {l m : Int} {n : Nat} {t : Int} (h : Sx.growsB l m n t = false) : Sx.greatI l m n t = Sx.two l + 1 + (n : Int) := if_neg (by simp [h])
theorem Sx.great_bd (l m : Int) (n : Nat) (t : Int) : Sx.two l + 1 + (n : Int) ≤ Sx.greatI l m n t ∧ Sx.greatI l m n t ≤ Sx.two l + 2 + (n : Int) := by
  unfold Sx.greatI; split <;> omega
theorem Sx.grows_neg {l m : Int} {n : Nat} {t : Int} (h : ¬ 0 ≤ t) : Sx.growsB l m n t = false := decide_eq_false (by omega)
theorem Sx.grows_last {l m : Int} {n : Nat} {t : Int} (h : 0 ≤ t) : Sx.growsB l m n t = decide (Sx.two l + 2 + (n : Int) ≤ Sx.two m - 1) := by
  simp [Sx.growsB, h]

set_option maxRecDepth 100000 in
set_option maxHeartbeats 2000000 in
theorem spec_l2Next (o l m : Int) (A : Option Addr) (n c : Nat) (b t : Int) (w : World) (hl0 : 0 ≤ l) (hl1 : l ≤ 8) (hn : n ≤ 4000) :
    Calls Try.prog 88 #[kv o l m A n c b t] w fun e w' => e = .returned (.int .i64 (Sx.two l + 2 + (n : Int))) ∧ Below w.heap.size w w' := by
  have t1 := Sx.two_pos l
  have t2 := Sx.two_lit (l := l) (by omega)
  have CE := hide (fun wx => spec_l1End o l m wx hl0 (by omega))
  have e1 : IntKind.i64.wrap (Sx.two l + 1 + 1) = Sx.two l + 1 + 1 := IntWalk.i64_in _ (by omega)
  have e2 : IntKind.i64.wrap (Sx.two l + 1 + 1 + (n : Int)) = Sx.two l + 1 + 1 + (n : Int) := IntWalk.i64_in _ (by omega)
  have kb := Blk.new w 31 #[.int .i64 o, .int .i64 l, .int .i64 m, .slice A n c, .int .i64 b, .int .i64 t]
  have s0 : Below w.heap.size w ((w.alloc (.cells #[.int .i64 o, .int .i64 l, .int .i64 m, .slice A n c, .int .i64 b, .int .i64 t] 31)).drew) ∧ ((w.alloc (.cells #[.int .i64 o, .int .i64 l, .int .i64 m, .slice A n c, .int .i64 b, .int .i64 t] 31)).drew).cell? ⟨w.heap.size, 0, none⟩ = some (.int .i64 o) ∧ ((w.alloc (.cells #[.int .i64 o, .int .i64 l, .int .i64 m, .slice A n c, .int .i64 b, .int .i64 t] 31)).drew).cell? ⟨w.heap.size, 1, none⟩ = some (.int .i64 l) ∧ ((w.alloc (.cells #[.int .i64 o, .int .i64 l, .int .i64 m, .slice A n c, .int .i64 b, .int .i64 t] 31)).drew).cell? ⟨w.heap.size, 2, none⟩ = some (.int .i64 m) ∧ ((w.alloc (.cells #[.int .i64 o, .int .i64 l, .int .i64 m, .slice A n c, .int .i64 b, .int .i64 t] 31)).drew).cell? ⟨w.heap.size, 3, none⟩ = some (.slice A n c) ∧ ((w.alloc (.cells #[.int .i64 o, .int .i64 l, .int .i64 m, .slice A n c, .int .i64 b, .int .i64 t] 31)).drew).cell? ⟨w.heap.size, 4, none⟩ = some (.int .i64 b) ∧ ((w.alloc (.cells #[.int .i64 o, .int .i64 l, .int .i64 m, .slice A n c, .int .i64 b, .int .i64 t] 31)).drew).cell? ⟨w.heap.size, 5, none⟩ = some (.int .i64 t) := ⟨((Below.refl _ _).alloc (Nat.le_refl _) _).drew, kb.cell 0, kb.cell 1, kb.cell 2, kb.cell 3, kb.cell 4, kb.cell 5⟩
  clear kb
  go_enter Try.func88, Try.ntmps88
  go_wp2_with fail
  refine wp_region_held_drew (S := (fun W => Below w.heap.size w W ∧ W.cell? ⟨w.heap.size, 0, none⟩ = some (.int .i64 o) ∧ W.cell? ⟨w.heap.size, 1, none⟩ = some (.int .i64 l) ∧ W.cell? ⟨w.heap.size, 2, none⟩ = some (.int .i64 m) ∧ W.cell? ⟨w.heap.size, 3, none⟩ = some (.slice A n c) ∧ W.cell? ⟨w.heap.size, 4, none⟩ = some (.int .i64 b) ∧ W.cell? ⟨w.heap.size, 5, none⟩ = some (.int .i64 t))) (by kernel_rfl) (by first | assumption | exact s0 | exact keep6 (by assumption) (by assumption)) (fun hHeld => ?_)
  refine wpAnyH_take (i := 0) (oi := { dst := some 3, op := Op.fieldAddr 31 (Operand.tmp 1) 0, type := 0, pos := "l2_words.go:33", after := #[], guard := none }) (v := ?_) rfl (by kernel_rfl) (by kernel_rfl) (by kernel_rfl) (fun _ _ _ h => h) (Or.inl ⟨by rfl, ?_⟩) (by assumption) ?_; rotate_left
  · intro W hW; (try dsimp only at hW); go_simp;  try (with_reducible rfl)
  try simp only [Act.put, List.setIfInBounds_toArray, List.set_cons_zero, List.set_cons_succ]
  refine wpAnyH_take (i := 1) (oi := { dst := some 4, op := Op.load 28 (Operand.tmp 3), type := 28, pos := "l2_words.go:33", after := #[{ on := 0, ground := Ground.data }], guard := none }) (v := ?_) rfl (by kernel_rfl) (by kernel_rfl) (by kernel_rfl) (fun _ _ _ h => h) (Or.inl ⟨by rfl, ?_⟩) (by assumption) ?_; rotate_left
  · intro W hW; (try dsimp only at hW); go_simp;  try (with_reducible rfl)
  try simp only [Act.put, List.setIfInBounds_toArray, List.set_cons_zero, List.set_cons_succ]
  refine wpAnyH_take (i := 4) (oi := { dst := some 7, op := Op.fieldAddr 31 (Operand.tmp 1) 1, type := 0, pos := "l2_words.go:33", after := #[], guard := none }) (v := ?_) rfl (by kernel_rfl) (by kernel_rfl) (by kernel_rfl) (fun _ _ _ h => h) (Or.inl ⟨by rfl, ?_⟩) (by assumption) ?_; rotate_left
  · intro W hW; (try dsimp only at hW); go_simp;  try (with_reducible rfl)
  try simp only [Act.put, List.setIfInBounds_toArray, List.set_cons_zero, List.set_cons_succ]
  refine wpAnyH_take (i := 5) (oi := { dst := some 8, op := Op.load 29 (Operand.tmp 7), type := 29, pos := "l2_words.go:33", after := #[{ on := 4, ground := Ground.data }], guard := none }) (v := ?_) rfl (by kernel_rfl) (by kernel_rfl) (by kernel_rfl) (fun _ _ _ h => h) (Or.inl ⟨by rfl, ?_⟩) (by assumption) ?_; rotate_left
  · intro W hW; (try dsimp only at hW); go_simp;  try (with_reducible rfl)
  try simp only [Act.put, List.setIfInBounds_toArray, List.set_cons_zero, List.set_cons_succ]
  refine wpAnyH_take (i := 6) (oi := { dst := some 9, op := Op.call { callee := Callee.builtin Builtin.len, args := #[Operand.tmp 8], argTypes := #[29] }, type := 3, pos := "l2_words.go:33", after := #[{ on := 5, ground := Ground.data }], guard := none }) (v := ?_) rfl (by kernel_rfl) (by kernel_rfl) (by kernel_rfl) (fun _ _ _ h => h) (Or.inl ⟨by rfl, ?_⟩) (by assumption) ?_; rotate_left
  · intro W hW; (try dsimp only at hW); go_simp;  try (with_reducible rfl)
  try simp only [Act.put, List.setIfInBounds_toArray, List.set_cons_zero, List.set_cons_succ]
  refine wpAnyH_ready (rs := [2]) (by kernel_rfl) (by simp) (AllReadyH.cons (i := 2) (o := { dst := some 5, op := Op.call { callee := Callee.value (Operand.func 87), args := #[Operand.tmp 4], argTypes := #[28] }, type := 3, pos := "l2_words.go:33", after := #[{ on := 1, ground := Ground.data }], guard := none }) rfl (fun K hK => ?_) AllReadyH.nil)
  go_simp
  refine ((unhide CE) _).mono ?_; rintro e w' ⟨rfl, hb⟩
  try go_wp2_with fail
  refine hK.out _ _ (by (try dsimp only); first | assumption | exact s0 | exact keep6 (by assumption) (by assumption)) (fun hHeld => ?_)
  clear hK K
  try simp only [Act.put, List.setIfInBounds_toArray, List.set_cons_zero, List.set_cons_succ]
  refine wpAnyH_take (i := 3) (oi := { dst := some 6, op := Op.binOp BinOp.add 3 (Operand.tmp 5) (Operand.const (Value.int IntKind.i64 1)) 3, type := 3, pos := "l2_words.go:33", after := #[{ on := 2, ground := Ground.data }], guard := none }) (v := ?_) rfl (by kernel_rfl) (by kernel_rfl) (by kernel_rfl) (fun _ _ _ h => h) (Or.inl ⟨by rfl, ?_⟩) (by assumption) ?_; rotate_left
  · intro W hW; (try dsimp only at hW); go_simp;  try (with_reducible rfl)
  try simp only [Act.put, List.setIfInBounds_toArray, List.set_cons_zero, List.set_cons_succ]
  refine wpAnyH_take (i := 7) (oi := { dst := some 10, op := Op.binOp BinOp.add 3 (Operand.tmp 6) (Operand.tmp 9) 3, type := 3, pos := "l2_words.go:33", after := #[{ on := 3, ground := Ground.data }, { on := 6, ground := Ground.data }], guard := none }) (v := ?_) rfl (by kernel_rfl) (by kernel_rfl) (by kernel_rfl) (fun _ _ _ h => h) (Or.inl ⟨by rfl, ?_⟩) (by assumption) ?_; rotate_left
  · intro W hW; (try dsimp only at hW); go_simp;  try (with_reducible rfl)
  try simp only [Act.put, List.setIfInBounds_toArray, List.set_cons_zero, List.set_cons_succ]
  refine wpAnyH_take (i := 8) (oi := { dst := some 2, op := Op.assign (Operand.tmp 10), type := 3, pos := "l2_words.go:33", after := #[{ on := 7, ground := Ground.data }, { on := 2, ground := Ground.chain }, { on := 0, ground := Ground.phase }, { on := 1, ground := Ground.phase }, { on := 2, ground := Ground.phase }, { on := 3, ground := Ground.phase }, { on := 4, ground := Ground.phase }, { on := 5, ground := Ground.phase }, { on := 6, ground := Ground.phase }, { on := 7, ground := Ground.phase }], guard := none }) (v := ?_) rfl (by kernel_rfl) (by kernel_rfl) (by kernel_rfl) (fun _ _ _ h => h) (Or.inl ⟨by rfl, ?_⟩) (by assumption) ?_; rotate_left
  · intro W hW; (try dsimp only at hW); go_simp;  try (with_reducible rfl)
  try simp only [Act.put, List.setIfInBounds_toArray, List.set_cons_zero, List.set_cons_succ]
  refine wpAnyH_done (by kernel_rfl) ?_ _
  go_wp2
  go_ret
  exact ⟨ret_int (by omega), hHeld.1⟩

set_option maxRecDepth 100000 in
set_option maxHeartbeats 2000000 in
theorem impl_nextWord (o l m : Int) (A : Option Addr) (n c : Nat) (b t : Int) (w : World) (h0 : Sx.setOK o l m = true) (hn : n ≤ 4000) :
    Calls Try.prog 79 #[kv o l m A n c b t] w fun e w' => e = .returned (.int .i64 (Sx.two l + 2 + (n : Int))) ∧ Below w.heap.size w w' := by
  have hbd := Sx.setOK_bd h0
  have t1 := Sx.two_pos l
  have t2 := Sx.two_lit (l := l) (by omega)
  have CE := hide (fun wx => by have := impl_EndCode o l m wx; rwa [Sx.end_yes h0] at this)
  have e1 : IntKind.i64.wrap (Sx.two l + 1 + 1) = Sx.two l + 1 + 1 := IntWalk.i64_in _ (by omega)
  have e2 : IntKind.i64.wrap (Sx.two l + 1 + 1 + (n : Int)) = Sx.two l + 1 + 1 + (n : Int) := IntWalk.i64_in _ (by omega)
  have kb := Blk.new w 31 #[.int .i64 o, .int .i64 l, .int .i64 m, .slice A n c, .int .i64 b, .int .i64 t]
  have s0 : Below w.heap.size w ((w.alloc (.cells #[.int .i64 o, .int .i64 l, .int .i64 m, .slice A n c, .int .i64 b, .int .i64 t] 31)).drew) ∧ ((w.alloc (.cells #[.int .i64 o, .int .i64 l, .int .i64 m, .slice A n c, .int .i64 b, .int .i64 t] 31)).drew).cell? ⟨w.heap.size, 0, none⟩ = some (.int .i64 o) ∧ ((w.alloc (.cells #[.int .i64 o, .int .i64 l, .int .i64 m, .slice A n c, .int .i64 b, .int .i64 t] 31)).drew).cell? ⟨w.heap.size, 1, none⟩ = some (.int .i64 l) ∧ ((w.alloc (.cells #[.int .i64 o, .int .i64 l, .int .i64 m, .slice A n c, .int .i64 b, .int .i64 t] 31)).drew).cell? ⟨w.heap.size, 2, none⟩ = some (.int .i64 m) ∧ ((w.alloc (.cells #[.int .i64 o, .int .i64 l, .int .i64 m, .slice A n c, .int .i64 b, .int .i64 t] 31)).drew).cell? ⟨w.heap.size, 3, none⟩ = some (.slice A n c) ∧ ((w.alloc (.cells #[.int .i64 o, .int .i64 l, .int .i64 m, .slice A n c, .int .i64 b, .int .i64 t] 31)).drew).cell? ⟨w.heap.size, 4, none⟩ = some (.int .i64 b) ∧ ((w.alloc (.cells #[.int .i64 o, .int .i64 l, .int .i64 m, .slice A n c, .int .i64 b, .int .i64 t] 31)).drew).cell? ⟨w.heap.size, 5, none⟩ = some (.int .i64 t) := ⟨((Below.refl _ _).alloc (Nat.le_refl _) _).drew, kb.cell 0, kb.cell 1, kb.cell 2, kb.cell 3, kb.cell 4, kb.cell 5⟩
  clear kb
  go_enter Try.func79, Try.ntmps79
  go_wp2_with fail
  refine wp_region_held_drew (S := (fun W => Below w.heap.size w W ∧ W.cell? ⟨w.heap.size, 0, none⟩ = some (.int .i64 o) ∧ W.cell? ⟨w.heap.size, 1, none⟩ = some (.int .i64 l) ∧ W.cell? ⟨w.heap.size, 2, none⟩ = some (.int .i64 m) ∧ W.cell? ⟨w.heap.size, 3, none⟩ = some (.slice A n c) ∧ W.cell? ⟨w.heap.size, 4, none⟩ = some (.int .i64 b) ∧ W.cell? ⟨w.heap.size, 5, none⟩ = some (.int .i64 t))) (by kernel_rfl) (by first | assumption | exact s0 | exact keep6 (by assumption) (by assumption)) (fun hHeld => ?_)
  refine wpAnyH_take (i := 0) (oi := { dst := some 3, op := Op.fieldAddr 31 (Operand.tmp 1) 0, type := 0, pos := "l2_words.go:71", after := #[], guard := none }) (v := ?_) rfl (by kernel_rfl) (by kernel_rfl) (by kernel_rfl) (fun _ _ _ h => h) (Or.inl ⟨by rfl, ?_⟩) (by assumption) ?_; rotate_left
  · intro W hW; (try dsimp only at hW); go_simp;  try (with_reducible rfl)
  try simp only [Act.put, List.setIfInBounds_toArray, List.set_cons_zero, List.set_cons_succ]
  refine wpAnyH_take (i := 1) (oi := { dst := some 4, op := Op.load 28 (Operand.tmp 3), type := 28, pos := "l2_words.go:71", after := #[{ on := 0, ground := Ground.data }], guard := none }) (v := ?_) rfl (by kernel_rfl) (by kernel_rfl) (by kernel_rfl) (fun _ _ _ h => h) (Or.inl ⟨by rfl, ?_⟩) (by assumption) ?_; rotate_left
  · intro W hW; (try dsimp only at hW); go_simp;  try (with_reducible rfl)
  try simp only [Act.put, List.setIfInBounds_toArray, List.set_cons_zero, List.set_cons_succ]
  refine wpAnyH_take (i := 4) (oi := { dst := some 7, op := Op.fieldAddr 31 (Operand.tmp 1) 1, type := 0, pos := "l2_words.go:71", after := #[], guard := none }) (v := ?_) rfl (by kernel_rfl) (by kernel_rfl) (by kernel_rfl) (fun _ _ _ h => h) (Or.inl ⟨by rfl, ?_⟩) (by assumption) ?_; rotate_left
  · intro W hW; (try dsimp only at hW); go_simp;  try (with_reducible rfl)
  try simp only [Act.put, List.setIfInBounds_toArray, List.set_cons_zero, List.set_cons_succ]
  refine wpAnyH_take (i := 5) (oi := { dst := some 8, op := Op.load 29 (Operand.tmp 7), type := 29, pos := "l2_words.go:71", after := #[{ on := 4, ground := Ground.data }], guard := none }) (v := ?_) rfl (by kernel_rfl) (by kernel_rfl) (by kernel_rfl) (fun _ _ _ h => h) (Or.inl ⟨by rfl, ?_⟩) (by assumption) ?_; rotate_left
  · intro W hW; (try dsimp only at hW); go_simp;  try (with_reducible rfl)
  try simp only [Act.put, List.setIfInBounds_toArray, List.set_cons_zero, List.set_cons_succ]
  refine wpAnyH_take (i := 6) (oi := { dst := some 9, op := Op.call { callee := Callee.builtin Builtin.len, args := #[Operand.tmp 8], argTypes := #[29] }, type := 3, pos := "l2_words.go:71", after := #[{ on := 5, ground := Ground.data }], guard := none }) (v := ?_) rfl (by kernel_rfl) (by kernel_rfl) (by kernel_rfl) (fun _ _ _ h => h) (Or.inl ⟨by rfl, ?_⟩) (by assumption) ?_; rotate_left
  · intro W hW; (try dsimp only at hW); go_simp;  try (with_reducible rfl)
  try simp only [Act.put, List.setIfInBounds_toArray, List.set_cons_zero, List.set_cons_succ]
  refine wpAnyH_ready (rs := [2]) (by kernel_rfl) (by simp) (AllReadyH.cons (i := 2) (o := { dst := some 5, op := Op.call { callee := Callee.value (Operand.func 34), args := #[Operand.tmp 4], argTypes := #[28] }, type := 3, pos := "l2_words.go:71", after := #[{ on := 1, ground := Ground.data }], guard := none }) rfl (fun K hK => ?_) AllReadyH.nil)
  go_simp
  refine ((unhide CE) _).mono ?_; rintro e w' ⟨rfl, hb⟩
  try go_wp2_with fail
  refine hK.out _ _ (by (try dsimp only); first | assumption | exact s0 | exact keep6 (by assumption) (by assumption)) (fun hHeld => ?_)
  clear hK K
  try simp only [Act.put, List.setIfInBounds_toArray, List.set_cons_zero, List.set_cons_succ]
  refine wpAnyH_take (i := 3) (oi := { dst := some 6, op := Op.binOp BinOp.add 3 (Operand.tmp 5) (Operand.const (Value.int IntKind.i64 1)) 3, type := 3, pos := "l2_words.go:71", after := #[{ on := 2, ground := Ground.data }], guard := none }) (v := ?_) rfl (by kernel_rfl) (by kernel_rfl) (by kernel_rfl) (fun _ _ _ h => h) (Or.inl ⟨by rfl, ?_⟩) (by assumption) ?_; rotate_left
  · intro W hW; (try dsimp only at hW); go_simp;  try (with_reducible rfl)
  try simp only [Act.put, List.setIfInBounds_toArray, List.set_cons_zero, List.set_cons_succ]
  refine wpAnyH_take (i := 7) (oi := { dst := some 10, op := Op.binOp BinOp.add 3 (Operand.tmp 6) (Operand.tmp 9) 3, type := 3, pos := "l2_words.go:71", after := #[{ on := 3, ground := Ground.data }, { on := 6, ground := Ground.data }], guard := none }) (v := ?_) rfl (by kernel_rfl) (by kernel_rfl) (by kernel_rfl) (fun _ _ _ h => h) (Or.inl ⟨by rfl, ?_⟩) (by assumption) ?_; rotate_left
  · intro W hW; (try dsimp only at hW); go_simp;  try (with_reducible rfl)
  try simp only [Act.put, List.setIfInBounds_toArray, List.set_cons_zero, List.set_cons_succ]
  refine wpAnyH_take (i := 8) (oi := { dst := some 2, op := Op.assign (Operand.tmp 10), type := 3, pos := "l2_words.go:71", after := #[{ on := 7, ground := Ground.data }, { on := 2, ground := Ground.chain }, { on := 0, ground := Ground.phase }, { on := 1, ground := Ground.phase }, { on := 2, ground := Ground.phase }, { on := 3, ground := Ground.phase }, { on := 4, ground := Ground.phase }, { on := 5, ground := Ground.phase }, { on := 6, ground := Ground.phase }, { on := 7, ground := Ground.phase }], guard := none }) (v := ?_) rfl (by kernel_rfl) (by kernel_rfl) (by kernel_rfl) (fun _ _ _ h => h) (Or.inl ⟨by rfl, ?_⟩) (by assumption) ?_; rotate_left
  · intro W hW; (try dsimp only at hW); go_simp;  try (with_reducible rfl)
  try simp only [Act.put, List.setIfInBounds_toArray, List.set_cons_zero, List.set_cons_succ]
  refine wpAnyH_done (by kernel_rfl) ?_ _
  go_wp2
  go_ret
  exact ⟨ret_int (by omega), hHeld.1⟩

set_option maxRecDepth 100000 in
set_option maxHeartbeats 2000000 in
theorem spec_l2Grows (o l m : Int) (A : Option Addr) (n c : Nat) (b t : Int) (w : World) (hl0 : 0 ≤ l) (hl1 : l ≤ 8) (hm0 : 0 ≤ m) (hm1 : m ≤ 10) (hn : n ≤ 4000) :
    Calls Try.prog 99 #[kv o l m A n c b t] w fun e w' => e = .returned (.bool (Sx.growsB l m n t)) ∧ Below w.heap.size w w' := by
  have t1 := Sx.two_pos l
  have t2 := Sx.two_lit (l := l) (by omega)
  have CN := hide (fun wx => spec_l2Next o l m A n c b t wx hl0 hl1 hn)
  have CL := hide (fun wx => spec_l1Last o l m wx hm0 hm1)
  have kb := Blk.new w 31 #[.int .i64 o, .int .i64 l, .int .i64 m, .slice A n c, .int .i64 b, .int .i64 t]
  have s0 : Below w.heap.size w ((w.alloc (.cells #[.int .i64 o, .int .i64 l, .int .i64 m, .slice A n c, .int .i64 b, .int .i64 t] 31)).drew) ∧ ((w.alloc (.cells #[.int .i64 o, .int .i64 l, .int .i64 m, .slice A n c, .int .i64 b, .int .i64 t] 31)).drew).cell? ⟨w.heap.size, 0, none⟩ = some (.int .i64 o) ∧ ((w.alloc (.cells #[.int .i64 o, .int .i64 l, .int .i64 m, .slice A n c, .int .i64 b, .int .i64 t] 31)).drew).cell? ⟨w.heap.size, 1, none⟩ = some (.int .i64 l) ∧ ((w.alloc (.cells #[.int .i64 o, .int .i64 l, .int .i64 m, .slice A n c, .int .i64 b, .int .i64 t] 31)).drew).cell? ⟨w.heap.size, 2, none⟩ = some (.int .i64 m) ∧ ((w.alloc (.cells #[.int .i64 o, .int .i64 l, .int .i64 m, .slice A n c, .int .i64 b, .int .i64 t] 31)).drew).cell? ⟨w.heap.size, 3, none⟩ = some (.slice A n c) ∧ ((w.alloc (.cells #[.int .i64 o, .int .i64 l, .int .i64 m, .slice A n c, .int .i64 b, .int .i64 t] 31)).drew).cell? ⟨w.heap.size, 4, none⟩ = some (.int .i64 b) ∧ ((w.alloc (.cells #[.int .i64 o, .int .i64 l, .int .i64 m, .slice A n c, .int .i64 b, .int .i64 t] 31)).drew).cell? ⟨w.heap.size, 5, none⟩ = some (.int .i64 t) := ⟨((Below.refl _ _).alloc (Nat.le_refl _) _).drew, kb.cell 0, kb.cell 1, kb.cell 2, kb.cell 3, kb.cell 4, kb.cell 5⟩
  clear kb
  by_cases hq : ¬ 0 ≤ t
  · have HR := hide (Sx.grows_neg (l := l) (m := m) (n := n) (t := t) hq)
    have q1 : decide (0 ≤ t) = false := decide_eq_false hq
    clear hq
    go_enter Try.func99, Try.ntmps99
    go_wp2_with fail
    refine wp_region_held_drew (S := (fun W => Below w.heap.size w W ∧ W.cell? ⟨w.heap.size, 0, none⟩ = some (.int .i64 o) ∧ W.cell? ⟨w.heap.size, 1, none⟩ = some (.int .i64 l) ∧ W.cell? ⟨w.heap.size, 2, none⟩ = some (.int .i64 m) ∧ W.cell? ⟨w.heap.size, 3, none⟩ = some (.slice A n c) ∧ W.cell? ⟨w.heap.size, 4, none⟩ = some (.int .i64 b) ∧ W.cell? ⟨w.heap.size, 5, none⟩ = some (.int .i64 t))) (by kernel_rfl) (by first | assumption | exact s0 | exact keep6 (by assumption) (by assumption)) (fun hHeld => ?_)
    refine wpAnyH_take (i := 0) (oi := { dst := some 3, op := Op.fieldAddr 31 (Operand.tmp 1) 3, type := 0, pos := "l2_words.go:36", after := #[], guard := none }) (v := ?_) rfl (by kernel_rfl) (by kernel_rfl) (by kernel_rfl) (fun _ _ _ h => h) (Or.inl ⟨by rfl, ?_⟩) (by assumption) ?_; rotate_left
    · intro W hW; (try dsimp only at hW); go_simp;  try (with_reducible rfl)
    try simp only [Act.put, List.setIfInBounds_toArray, List.set_cons_zero, List.set_cons_succ]
    refine wpAnyH_take (i := 1) (oi := { dst := some 4, op := Op.load 3 (Operand.tmp 3), type := 3, pos := "l2_words.go:36", after := #[{ on := 0, ground := Ground.data }], guard := none }) (v := ?_) rfl (by kernel_rfl) (by kernel_rfl) (by kernel_rfl) (fun _ _ _ h => h) (Or.inl ⟨by rfl, ?_⟩) (by assumption) ?_; rotate_left
    · intro W hW; (try dsimp only at hW); go_simp;  try (with_reducible rfl)
    try simp only [Act.put, List.setIfInBounds_toArray, List.set_cons_zero, List.set_cons_succ]
    refine wpAnyH_take (i := 2) (oi := { dst := some 5, op := Op.binOp BinOp.geq 3 (Operand.tmp 4) (Operand.const (Value.int IntKind.i64 0)) 3, type := 4, pos := "l2_words.go:36", after := #[{ on := 1, ground := Ground.data }], guard := none }) (v := ?_) rfl (by kernel_rfl) (by kernel_rfl) (by kernel_rfl) (fun _ _ _ h => h) (Or.inl ⟨by rfl, ?_⟩) (by assumption) ?_; rotate_left
    · intro W hW; (try dsimp only at hW); go_simp;  try (with_reducible rfl)
    try simp only [Act.put, List.setIfInBounds_toArray, List.set_cons_zero, List.set_cons_succ]
    refine wpAnyH_take (i := 3) (oi := { dst := some 6, op := Op.move (Operand.tmp 5), type := 4, pos := "l2_words.go:36", after := #[{ on := 2, ground := Ground.data }], guard := none }) (v := ?_) rfl (by kernel_rfl) (by kernel_rfl) (by kernel_rfl) (fun _ _ _ h => h) (Or.inl ⟨by rfl, ?_⟩) (by assumption) ?_; rotate_left
    · intro W hW; (try dsimp only at hW); go_simp;  try (with_reducible rfl)
    try simp only [Act.put, List.setIfInBounds_toArray, List.set_cons_zero, List.set_cons_succ]
    refine wpAnyH_take (i := 4) (oi := { dst := some 7, op := Op.load 31 (Operand.tmp 1), type := 31, pos := "l2_words.go:36", after := #[{ on := 3, ground := Ground.guard }], guard := some (3, true) }) rfl (by kernel_rfl) (by kernel_rfl) (by kernel_rfl) (fun _ _ _ h => h) (Or.inr ⟨by rfl, rfl⟩) (by assumption) ?_
    try simp only [Act.put, List.setIfInBounds_toArray, List.set_cons_zero, List.set_cons_succ]
    refine wpAnyH_take (i := 5) (oi := { dst := some 8, op := Op.call { callee := Callee.value (Operand.func 88), args := #[Operand.tmp 7], argTypes := #[31] }, type := 3, pos := "l2_words.go:36", after := #[{ on := 4, ground := Ground.data }, { on := 3, ground := Ground.chain }, { on := 3, ground := Ground.guard }], guard := some (3, true) }) rfl (by kernel_rfl) (by kernel_rfl) (by kernel_rfl) (fun _ _ _ h => h) (Or.inr ⟨by rfl, rfl⟩) (by assumption) ?_
    try simp only [Act.put, List.setIfInBounds_toArray, List.set_cons_zero, List.set_cons_succ]
    refine wpAnyH_take (i := 6) (oi := { dst := some 9, op := Op.fieldAddr 31 (Operand.tmp 1) 0, type := 0, pos := "l2_words.go:36", after := #[{ on := 3, ground := Ground.guard }], guard := some (3, true) }) rfl (by kernel_rfl) (by kernel_rfl) (by kernel_rfl) (fun _ _ _ h => h) (Or.inr ⟨by rfl, rfl⟩) (by assumption) ?_
    try simp only [Act.put, List.setIfInBounds_toArray, List.set_cons_zero, List.set_cons_succ]
    refine wpAnyH_take (i := 7) (oi := { dst := some 10, op := Op.load 28 (Operand.tmp 9), type := 28, pos := "l2_words.go:36", after := #[{ on := 6, ground := Ground.data }, { on := 3, ground := Ground.guard }], guard := some (3, true) }) rfl (by kernel_rfl) (by kernel_rfl) (by kernel_rfl) (fun _ _ _ h => h) (Or.inr ⟨by rfl, rfl⟩) (by assumption) ?_
    try simp only [Act.put, List.setIfInBounds_toArray, List.set_cons_zero, List.set_cons_succ]
    refine wpAnyH_take (i := 8) (oi := { dst := some 11, op := Op.call { callee := Callee.value (Operand.func 95), args := #[Operand.tmp 10], argTypes := #[28] }, type := 3, pos := "l2_words.go:36", after := #[{ on := 7, ground := Ground.data }, { on := 5, ground := Ground.chain }, { on := 3, ground := Ground.guard }], guard := some (3, true) }) rfl (by kernel_rfl) (by kernel_rfl) (by kernel_rfl) (fun _ _ _ h => h) (Or.inr ⟨by rfl, rfl⟩) (by assumption) ?_
    try simp only [Act.put, List.setIfInBounds_toArray, List.set_cons_zero, List.set_cons_succ]
    refine wpAnyH_take (i := 9) (oi := { dst := some 12, op := Op.binOp BinOp.leq 3 (Operand.tmp 8) (Operand.tmp 11) 3, type := 4, pos := "l2_words.go:36", after := #[{ on := 5, ground := Ground.data }, { on := 8, ground := Ground.data }, { on := 3, ground := Ground.guard }], guard := some (3, true) }) rfl (by kernel_rfl) (by kernel_rfl) (by kernel_rfl) (fun _ _ _ h => h) (Or.inr ⟨by rfl, rfl⟩) (by assumption) ?_
    try simp only [Act.put, List.setIfInBounds_toArray, List.set_cons_zero, List.set_cons_succ]
    refine wpAnyH_take (i := 10) (oi := { dst := some 13, op := Op.pick (Operand.tmp 6) (Operand.tmp 12) (Operand.const (Value.bool false)), type := 4, pos := "l2_words.go:36", after := #[{ on := 3, ground := Ground.data }, { on := 9, ground := Ground.data }], guard := none }) (v := ?_) rfl (by kernel_rfl) (by kernel_rfl) (by kernel_rfl) (fun _ _ _ h => h) (Or.inl ⟨by rfl, ?_⟩) (by assumption) ?_; rotate_left
    · intro W hW; (try dsimp only at hW); go_simp;  try (with_reducible rfl)
    try simp only [Act.put, List.setIfInBounds_toArray, List.set_cons_zero, List.set_cons_succ]
    refine wpAnyH_take (i := 11) (oi := { dst := some 2, op := Op.assign (Operand.tmp 13), type := 4, pos := "l2_words.go:36", after := #[{ on := 10, ground := Ground.data }, { on := 8, ground := Ground.chain }, { on := 0, ground := Ground.phase }, { on := 1, ground := Ground.phase }, { on := 2, ground := Ground.phase }, { on := 3, ground := Ground.phase }, { on := 4, ground := Ground.phase }, { on := 5, ground := Ground.phase }, { on := 6, ground := Ground.phase }, { on := 7, ground := Ground.phase }, { on := 8, ground := Ground.phase }, { on := 9, ground := Ground.phase }, { on := 10, ground := Ground.phase }], guard := none }) (v := ?_) rfl (by kernel_rfl) (by kernel_rfl) (by kernel_rfl) (fun _ _ _ h => h) (Or.inl ⟨by rfl, ?_⟩) (by assumption) ?_; rotate_left
    · intro W hW; (try dsimp only at hW); go_simp;  try (with_reducible rfl)
    try simp only [Act.put, List.setIfInBounds_toArray, List.set_cons_zero, List.set_cons_succ]
    refine wpAnyH_done (by kernel_rfl) ?_ _
    go_wp2
    go_ret
    exact ⟨ret_bool HR.out.symm, hHeld.1⟩
  · have HR := hide (Sx.grows_last (l := l) (m := m) (n := n) (t := t) (by omega))
    have q1 : decide (0 ≤ t) = true := decide_eq_true (by omega)
    clear hq
    go_enter Try.func99, Try.ntmps99
    go_wp2_with fail
    refine wp_region_held_drew (S := (fun W => Below w.heap.size w W ∧ W.cell? ⟨w.heap.size, 0, none⟩ = some (.int .i64 o) ∧ W.cell? ⟨w.heap.size, 1, none⟩ = some (.int .i64 l) ∧ W.cell? ⟨w.heap.size, 2, none⟩ = some (.int .i64 m) ∧ W.cell? ⟨w.heap.size, 3, none⟩ = some (.slice A n c) ∧ W.cell? ⟨w.heap.size, 4, none⟩ = some (.int .i64 b) ∧ W.cell? ⟨w.heap.size, 5, none⟩ = some (.int .i64 t))) (by kernel_rfl) (by first | assumption | exact s0 | exact keep6 (by assumption) (by assumption)) (fun hHeld => ?_)
    refine wpAnyH_take (i := 0) (oi := { dst := some 3, op := Op.fieldAddr 31 (Operand.tmp 1) 3, type := 0, pos := "l2_words.go:36", after := #[], guard := none }) (v := ?_) rfl (by kernel_rfl) (by kernel_rfl) (by kernel_rfl) (fun _ _ _ h => h) (Or.inl ⟨by rfl, ?_⟩) (by assumption) ?_; rotate_left
    · intro W hW; (try dsimp only at hW); go_simp;  try (with_reducible rfl)
    try simp only [Act.put, List.setIfInBounds_toArray, List.set_cons_zero, List.set_cons_succ]
    refine wpAnyH_take (i := 1) (oi := { dst := some 4, op := Op.load 3 (Operand.tmp 3), type := 3, pos := "l2_words.go:36", after := #[{ on := 0, ground := Ground.data }], guard := none }) (v := ?_) rfl (by kernel_rfl) (by kernel_rfl) (by kernel_rfl) (fun _ _ _ h => h) (Or.inl ⟨by rfl, ?_⟩) (by assumption) ?_; rotate_left
    · intro W hW; (try dsimp only at hW); go_simp;  try (with_reducible rfl)
    try simp only [Act.put, List.setIfInBounds_toArray, List.set_cons_zero, List.set_cons_succ]
    refine wpAnyH_take (i := 2) (oi := { dst := some 5, op := Op.binOp BinOp.geq 3 (Operand.tmp 4) (Operand.const (Value.int IntKind.i64 0)) 3, type := 4, pos := "l2_words.go:36", after := #[{ on := 1, ground := Ground.data }], guard := none }) (v := ?_) rfl (by kernel_rfl) (by kernel_rfl) (by kernel_rfl) (fun _ _ _ h => h) (Or.inl ⟨by rfl, ?_⟩) (by assumption) ?_; rotate_left
    · intro W hW; (try dsimp only at hW); go_simp;  try (with_reducible rfl)
    try simp only [Act.put, List.setIfInBounds_toArray, List.set_cons_zero, List.set_cons_succ]
    refine wpAnyH_take (i := 3) (oi := { dst := some 6, op := Op.move (Operand.tmp 5), type := 4, pos := "l2_words.go:36", after := #[{ on := 2, ground := Ground.data }], guard := none }) (v := ?_) rfl (by kernel_rfl) (by kernel_rfl) (by kernel_rfl) (fun _ _ _ h => h) (Or.inl ⟨by rfl, ?_⟩) (by assumption) ?_; rotate_left
    · intro W hW; (try dsimp only at hW); go_simp;  try (with_reducible rfl)
    try simp only [Act.put, List.setIfInBounds_toArray, List.set_cons_zero, List.set_cons_succ]
    refine wpAnyH_take (i := 4) (oi := { dst := some 7, op := Op.load 31 (Operand.tmp 1), type := 31, pos := "l2_words.go:36", after := #[{ on := 3, ground := Ground.guard }], guard := some (3, true) }) (v := ?_) rfl (by kernel_rfl) (by kernel_rfl) (by kernel_rfl) (fun _ _ _ h => h) (Or.inl ⟨by rfl, ?_⟩) (by assumption) ?_; rotate_left
    · intro W hW; (try dsimp only at hW); go_simp;  try (with_reducible rfl)
    try simp only [Act.put, List.setIfInBounds_toArray, List.set_cons_zero, List.set_cons_succ]
    refine wpAnyH_take (i := 6) (oi := { dst := some 9, op := Op.fieldAddr 31 (Operand.tmp 1) 0, type := 0, pos := "l2_words.go:36", after := #[{ on := 3, ground := Ground.guard }], guard := some (3, true) }) (v := ?_) rfl (by kernel_rfl) (by kernel_rfl) (by kernel_rfl) (fun _ _ _ h => h) (Or.inl ⟨by rfl, ?_⟩) (by assumption) ?_; rotate_left
    · intro W hW; (try dsimp only at hW); go_simp;  try (with_reducible rfl)
    try simp only [Act.put, List.setIfInBounds_toArray, List.set_cons_zero, List.set_cons_succ]
    refine wpAnyH_take (i := 7) (oi := { dst := some 10, op := Op.load 28 (Operand.tmp 9), type := 28, pos := "l2_words.go:36", after := #[{ on := 6, ground := Ground.data }, { on := 3, ground := Ground.guard }], guard := some (3, true) }) (v := ?_) rfl (by kernel_rfl) (by kernel_rfl) (by kernel_rfl) (fun _ _ _ h => h) (Or.inl ⟨by rfl, ?_⟩) (by assumption) ?_; rotate_left
    · intro W hW; (try dsimp only at hW); go_simp;  try (with_reducible rfl)
    try simp only [Act.put, List.setIfInBounds_toArray, List.set_cons_zero, List.set_cons_succ]
    refine wpAnyH_ready (rs := [5]) (by kernel_rfl) (by simp) (AllReadyH.cons (i := 5) (o := { dst := some 8, op := Op.call { callee := Callee.value (Operand.func 88), args := #[Operand.tmp 7], argTypes := #[31] }, type := 3, pos := "l2_words.go:36", after := #[{ on := 4, ground := Ground.data }, { on := 3, ground := Ground.chain }, { on := 3, ground := Ground.guard }], guard := some (3, true) }) rfl (fun K hK => ?_) AllReadyH.nil)
    go_simp
    refine ((unhide CN) _).mono ?_; rintro e w' ⟨rfl, hb⟩
    try go_wp2_with fail
    refine hK.out _ _ (by (try dsimp only); first | assumption | exact s0 | exact keep6 (by assumption) (by assumption)) (fun hHeld => ?_)
    clear hK K
    try simp only [Act.put, List.setIfInBounds_toArray, List.set_cons_zero, List.set_cons_succ]
    refine wpAnyH_ready (rs := [8]) (by kernel_rfl) (by simp) (AllReadyH.cons (i := 8) (o := { dst := some 11, op := Op.call { callee := Callee.value (Operand.func 95), args := #[Operand.tmp 10], argTypes := #[28] }, type := 3, pos := "l2_words.go:36", after := #[{ on := 7, ground := Ground.data }, { on := 5, ground := Ground.chain }, { on := 3, ground := Ground.guard }], guard := some (3, true) }) rfl (fun K hK => ?_) AllReadyH.nil)
    go_simp
    refine ((unhide CL) _).mono ?_; rintro e w' ⟨rfl, hb⟩
    try go_wp2_with fail
    refine hK.out _ _ (by (try dsimp only); first | assumption | exact s0 | exact keep6 (by assumption) (by assumption)) (fun hHeld => ?_)
    clear hK K
    try simp only [Act.put, List.setIfInBounds_toArray, List.set_cons_zero, List.set_cons_succ]
    refine wpAnyH_take (i := 9) (oi := { dst := some 12, op := Op.binOp BinOp.leq 3 (Operand.tmp 8) (Operand.tmp 11) 3, type := 4, pos := "l2_words.go:36", after := #[{ on := 5, ground := Ground.data }, { on := 8, ground := Ground.data }, { on := 3, ground := Ground.guard }], guard := some (3, true) }) (v := ?_) rfl (by kernel_rfl) (by kernel_rfl) (by kernel_rfl) (fun _ _ _ h => h) (Or.inl ⟨by rfl, ?_⟩) (by assumption) ?_; rotate_left
    · intro W hW; (try dsimp only at hW); go_simp;  try (with_reducible rfl)
    try simp only [Act.put, List.setIfInBounds_toArray, List.set_cons_zero, List.set_cons_succ]
    refine wpAnyH_take (i := 10) (oi := { dst := some 13, op := Op.pick (Operand.tmp 6) (Operand.tmp 12) (Operand.const (Value.bool false)), type := 4, pos := "l2_words.go:36", after := #[{ on := 3, ground := Ground.data }, { on := 9, ground := Ground.data }], guard := none }) (v := ?_) rfl (by kernel_rfl) (by kernel_rfl) (by kernel_rfl) (fun _ _ _ h => h) (Or.inl ⟨by rfl, ?_⟩) (by assumption) ?_; rotate_left
    · intro W hW; (try dsimp only at hW); go_simp;  try (with_reducible rfl)
    try simp only [Act.put, List.setIfInBounds_toArray, List.set_cons_zero, List.set_cons_succ]
    refine wpAnyH_take (i := 11) (oi := { dst := some 2, op := Op.assign (Operand.tmp 13), type := 4, pos := "l2_words.go:36", after := #[{ on := 10, ground := Ground.data }, { on := 8, ground := Ground.chain }, { on := 0, ground := Ground.phase }, { on := 1, ground := Ground.phase }, { on := 2, ground := Ground.phase }, { on := 3, ground := Ground.phase }, { on := 4, ground := Ground.phase }, { on := 5, ground := Ground.phase }, { on := 6, ground := Ground.phase }, { on := 7, ground := Ground.phase }, { on := 8, ground := Ground.phase }, { on := 9, ground := Ground.phase }, { on := 10, ground := Ground.phase }], guard := none }) (v := ?_) rfl (by kernel_rfl) (by kernel_rfl) (by kernel_rfl) (fun _ _ _ h => h) (Or.inl ⟨by rfl, ?_⟩) (by assumption) ?_; rotate_left
    · intro W hW; (try dsimp only at hW); go_simp;  try (with_reducible rfl)
    try simp only [Act.put, List.setIfInBounds_toArray, List.set_cons_zero, List.set_cons_succ]
    refine wpAnyH_done (by kernel_rfl) ?_ _
    go_wp2
    go_ret
    exact ⟨ret_bool HR.out.symm, hHeld.1⟩

set_option maxRecDepth 100000 in
set_option maxHeartbeats 2000000 in
theorem impl_grows (o l m : Int) (A : Option Addr) (n c : Nat) (b t : Int) (w : World) (h0 : Sx.setOK o l m = true) (hn : n ≤ 4000) (ht : t = -1 ∨ 0 ≤ t) :
    Calls Try.prog 80 #[kv o l m A n c b t] w fun e w' => e = .returned (.bool (Sx.growsB l m n t)) ∧ Below w.heap.size w w' := by
  have hbd := Sx.setOK_bd h0
  have t1 := Sx.two_pos l
  have t2 := Sx.two_lit (l := l) (by omega)
  have CN := hide (fun wx => impl_nextWord o l m A n c b t wx h0 hn)
  have CL := hide (fun wx => by have := impl_LastCode o l m wx; rwa [Sx.last_yes h0] at this)
  have kb := Blk.new w 31 #[.int .i64 o, .int .i64 l, .int .i64 m, .slice A n c, .int .i64 b, .int .i64 t]
  have s0 : Below w.heap.size w ((w.alloc (.cells #[.int .i64 o, .int .i64 l, .int .i64 m, .slice A n c, .int .i64 b, .int .i64 t] 31)).drew) ∧ ((w.alloc (.cells #[.int .i64 o, .int .i64 l, .int .i64 m, .slice A n c, .int .i64 b, .int .i64 t] 31)).drew).cell? ⟨w.heap.size, 0, none⟩ = some (.int .i64 o) ∧ ((w.alloc (.cells #[.int .i64 o, .int .i64 l, .int .i64 m, .slice A n c, .int .i64 b, .int .i64 t] 31)).drew).cell? ⟨w.heap.size, 1, none⟩ = some (.int .i64 l) ∧ ((w.alloc (.cells #[.int .i64 o, .int .i64 l, .int .i64 m, .slice A n c, .int .i64 b, .int .i64 t] 31)).drew).cell? ⟨w.heap.size, 2, none⟩ = some (.int .i64 m) ∧ ((w.alloc (.cells #[.int .i64 o, .int .i64 l, .int .i64 m, .slice A n c, .int .i64 b, .int .i64 t] 31)).drew).cell? ⟨w.heap.size, 3, none⟩ = some (.slice A n c) ∧ ((w.alloc (.cells #[.int .i64 o, .int .i64 l, .int .i64 m, .slice A n c, .int .i64 b, .int .i64 t] 31)).drew).cell? ⟨w.heap.size, 4, none⟩ = some (.int .i64 b) ∧ ((w.alloc (.cells #[.int .i64 o, .int .i64 l, .int .i64 m, .slice A n c, .int .i64 b, .int .i64 t] 31)).drew).cell? ⟨w.heap.size, 5, none⟩ = some (.int .i64 t) := ⟨((Below.refl _ _).alloc (Nat.le_refl _) _).drew, kb.cell 0, kb.cell 1, kb.cell 2, kb.cell 3, kb.cell 4, kb.cell 5⟩
  clear kb
  by_cases hq : t = -1
  · have HR := hide (Sx.grows_neg (l := l) (m := m) (n := n) (t := t) (by omega))
    have q1 : (t != -1) = false := by simpa using hq
    clear hq ht
    go_enter Try.func80, Try.ntmps80
    go_wp2_with fail
    refine wp_region_held_drew (S := (fun W => Below w.heap.size w W ∧ W.cell? ⟨w.heap.size, 0, none⟩ = some (.int .i64 o) ∧ W.cell? ⟨w.heap.size, 1, none⟩ = some (.int .i64 l) ∧ W.cell? ⟨w.heap.size, 2, none⟩ = some (.int .i64 m) ∧ W.cell? ⟨w.heap.size, 3, none⟩ = some (.slice A n c) ∧ W.cell? ⟨w.heap.size, 4, none⟩ = some (.int .i64 b) ∧ W.cell? ⟨w.heap.size, 5, none⟩ = some (.int .i64 t))) (by kernel_rfl) (by first | assumption | exact s0 | exact keep6 (by assumption) (by assumption)) (fun hHeld => ?_)
    refine wpAnyH_take (i := 0) (oi := { dst := some 3, op := Op.fieldAddr 31 (Operand.tmp 1) 3, type := 0, pos := "l2_words.go:73", after := #[], guard := none }) (v := ?_) rfl (by kernel_rfl) (by kernel_rfl) (by kernel_rfl) (fun _ _ _ h => h) (Or.inl ⟨by rfl, ?_⟩) (by assumption) ?_; rotate_left
    · intro W hW; (try dsimp only at hW); go_simp;  try (with_reducible rfl)
    try simp only [Act.put, List.setIfInBounds_toArray, List.set_cons_zero, List.set_cons_succ]
    refine wpAnyH_take (i := 1) (oi := { dst := some 4, op := Op.load 3 (Operand.tmp 3), type := 3, pos := "l2_words.go:73", after := #[{ on := 0, ground := Ground.data }], guard := none }) (v := ?_) rfl (by kernel_rfl) (by kernel_rfl) (by kernel_rfl) (fun _ _ _ h => h) (Or.inl ⟨by rfl, ?_⟩) (by assumption) ?_; rotate_left
    · intro W hW; (try dsimp only at hW); go_simp;  try (with_reducible rfl)
    try simp only [Act.put, List.setIfInBounds_toArray, List.set_cons_zero, List.set_cons_succ]
    refine wpAnyH_take (i := 2) (oi := { dst := some 5, op := Op.binOp BinOp.neq 3 (Operand.tmp 4) (Operand.const (Value.int IntKind.i64 (-1))) 3, type := 4, pos := "l2_words.go:73", after := #[{ on := 1, ground := Ground.data }], guard := none }) (v := ?_) rfl (by kernel_rfl) (by kernel_rfl) (by kernel_rfl) (fun _ _ _ h => h) (Or.inl ⟨by rfl, ?_⟩) (by assumption) ?_; rotate_left
    · intro W hW; (try dsimp only at hW); go_simp;  try (with_reducible rfl)
    try simp only [Act.put, List.setIfInBounds_toArray, List.set_cons_zero, List.set_cons_succ]
    refine wpAnyH_take (i := 3) (oi := { dst := some 6, op := Op.move (Operand.tmp 5), type := 4, pos := "l2_words.go:73", after := #[{ on := 2, ground := Ground.data }], guard := none }) (v := ?_) rfl (by kernel_rfl) (by kernel_rfl) (by kernel_rfl) (fun _ _ _ h => h) (Or.inl ⟨by rfl, ?_⟩) (by assumption) ?_; rotate_left
    · intro W hW; (try dsimp only at hW); go_simp;  try (with_reducible rfl)
    try simp only [Act.put, List.setIfInBounds_toArray, List.set_cons_zero, List.set_cons_succ]
    refine wpAnyH_take (i := 4) (oi := { dst := some 7, op := Op.load 31 (Operand.tmp 1), type := 31, pos := "l2_words.go:73", after := #[{ on := 3, ground := Ground.guard }], guard := some (3, true) }) rfl (by kernel_rfl) (by kernel_rfl) (by kernel_rfl) (fun _ _ _ h => h) (Or.inr ⟨by rfl, rfl⟩) (by assumption) ?_
    try simp only [Act.put, List.setIfInBounds_toArray, List.set_cons_zero, List.set_cons_succ]
    refine wpAnyH_take (i := 5) (oi := { dst := some 8, op := Op.call { callee := Callee.value (Operand.func 79), args := #[Operand.tmp 7], argTypes := #[31] }, type := 3, pos := "l2_words.go:73", after := #[{ on := 4, ground := Ground.data }, { on := 3, ground := Ground.chain }, { on := 3, ground := Ground.guard }], guard := some (3, true) }) rfl (by kernel_rfl) (by kernel_rfl) (by kernel_rfl) (fun _ _ _ h => h) (Or.inr ⟨by rfl, rfl⟩) (by assumption) ?_
    try simp only [Act.put, List.setIfInBounds_toArray, List.set_cons_zero, List.set_cons_succ]
    refine wpAnyH_take (i := 6) (oi := { dst := some 9, op := Op.fieldAddr 31 (Operand.tmp 1) 0, type := 0, pos := "l2_words.go:73", after := #[{ on := 3, ground := Ground.guard }], guard := some (3, true) }) rfl (by kernel_rfl) (by kernel_rfl) (by kernel_rfl) (fun _ _ _ h => h) (Or.inr ⟨by rfl, rfl⟩) (by assumption) ?_
    try simp only [Act.put, List.setIfInBounds_toArray, List.set_cons_zero, List.set_cons_succ]
    refine wpAnyH_take (i := 7) (oi := { dst := some 10, op := Op.load 28 (Operand.tmp 9), type := 28, pos := "l2_words.go:73", after := #[{ on := 6, ground := Ground.data }, { on := 3, ground := Ground.guard }], guard := some (3, true) }) rfl (by kernel_rfl) (by kernel_rfl) (by kernel_rfl) (fun _ _ _ h => h) (Or.inr ⟨by rfl, rfl⟩) (by assumption) ?_
    try simp only [Act.put, List.setIfInBounds_toArray, List.set_cons_zero, List.set_cons_succ]
    refine wpAnyH_take (i := 8) (oi := { dst := some 11, op := Op.call { callee := Callee.value (Operand.func 50), args := #[Operand.tmp 10], argTypes := #[28] }, type := 3, pos := "l2_words.go:73", after := #[{ on := 7, ground := Ground.data }, { on := 5, ground := Ground.chain }, { on := 3, ground := Ground.guard }], guard := some (3, true) }) rfl (by kernel_rfl) (by kernel_rfl) (by kernel_rfl) (fun _ _ _ h => h) (Or.inr ⟨by rfl, rfl⟩) (by assumption) ?_
    try simp only [Act.put, List.setIfInBounds_toArray, List.set_cons_zero, List.set_cons_succ]
    refine wpAnyH_take (i := 9) (oi := { dst := some 12, op := Op.binOp BinOp.leq 3 (Operand.tmp 8) (Operand.tmp 11) 3, type := 4, pos := "l2_words.go:73", after := #[{ on := 5, ground := Ground.data }, { on := 8, ground := Ground.data }, { on := 3, ground := Ground.guard }], guard := some (3, true) }) rfl (by kernel_rfl) (by kernel_rfl) (by kernel_rfl) (fun _ _ _ h => h) (Or.inr ⟨by rfl, rfl⟩) (by assumption) ?_
    try simp only [Act.put, List.setIfInBounds_toArray, List.set_cons_zero, List.set_cons_succ]
    refine wpAnyH_take (i := 10) (oi := { dst := some 13, op := Op.pick (Operand.tmp 6) (Operand.tmp 12) (Operand.const (Value.bool false)), type := 4, pos := "l2_words.go:73", after := #[{ on := 3, ground := Ground.data }, { on := 9, ground := Ground.data }], guard := none }) (v := ?_) rfl (by kernel_rfl) (by kernel_rfl) (by kernel_rfl) (fun _ _ _ h => h) (Or.inl ⟨by rfl, ?_⟩) (by assumption) ?_; rotate_left
    · intro W hW; (try dsimp only at hW); go_simp;  try (with_reducible rfl)
    try simp only [Act.put, List.setIfInBounds_toArray, List.set_cons_zero, List.set_cons_succ]
    refine wpAnyH_take (i := 11) (oi := { dst := some 2, op := Op.assign (Operand.tmp 13), type := 4, pos := "l2_words.go:73", after := #[{ on := 10, ground := Ground.data }, { on := 8, ground := Ground.chain }, { on := 0, ground := Ground.phase }, { on := 1, ground := Ground.phase }, { on := 2, ground := Ground.phase }, { on := 3, ground := Ground.phase }, { on := 4, ground := Ground.phase }, { on := 5, ground := Ground.phase }, { on := 6, ground := Ground.phase }, { on := 7, ground := Ground.phase }, { on := 8, ground := Ground.phase }, { on := 9, ground := Ground.phase }, { on := 10, ground := Ground.phase }], guard := none }) (v := ?_) rfl (by kernel_rfl) (by kernel_rfl) (by kernel_rfl) (fun _ _ _ h => h) (Or.inl ⟨by rfl, ?_⟩) (by assumption) ?_; rotate_left
    · intro W hW; (try dsimp only at hW); go_simp;  try (with_reducible rfl)
    try simp only [Act.put, List.setIfInBounds_toArray, List.set_cons_zero, List.set_cons_succ]
    refine wpAnyH_done (by kernel_rfl) ?_ _
    go_wp2
    go_ret
    exact ⟨ret_bool HR.out.symm, hHeld.1⟩
  · have HR := hide (Sx.grows_last (l := l) (m := m) (n := n) (t := t) (by omega))
    have q1 : (t != -1) = true := by simpa using hq
    clear hq
    go_enter Try.func80, Try.ntmps80
    go_wp2_with fail
    refine wp_region_held_drew (S := (fun W => Below w.heap.size w W ∧ W.cell? ⟨w.heap.size, 0, none⟩ = some (.int .i64 o) ∧ W.cell? ⟨w.heap.size, 1, none⟩ = some (.int .i64 l) ∧ W.cell? ⟨w.heap.size, 2, none⟩ = some (.int .i64 m) ∧ W.cell? ⟨w.heap.size, 3, none⟩ = some (.slice A n c) ∧ W.cell? ⟨w.heap.size, 4, none⟩ = some (.int .i64 b) ∧ W.cell? ⟨w.heap.size, 5, none⟩ = some (.int .i64 t))) (by kernel_rfl) (by first | assumption | exact s0 | exact keep6 (by assumption) (by assumption)) (fun hHeld => ?_)
    refine wpAnyH_take (i := 0) (oi := { dst := some 3, op := Op.fieldAddr 31 (Operand.tmp 1) 3, type := 0, pos := "l2_words.go:73", after := #[], guard := none }) (v := ?_) rfl (by kernel_rfl) (by kernel_rfl) (by kernel_rfl) (fun _ _ _ h => h) (Or.inl ⟨by rfl, ?_⟩) (by assumption) ?_; rotate_left
    · intro W hW; (try dsimp only at hW); go_simp;  try (with_reducible rfl)
    try simp only [Act.put, List.setIfInBounds_toArray, List.set_cons_zero, List.set_cons_succ]
    refine wpAnyH_take (i := 1) (oi := { dst := some 4, op := Op.load 3 (Operand.tmp 3), type := 3, pos := "l2_words.go:73", after := #[{ on := 0, ground := Ground.data }], guard := none }) (v := ?_) rfl (by kernel_rfl) (by kernel_rfl) (by kernel_rfl) (fun _ _ _ h => h) (Or.inl ⟨by rfl, ?_⟩) (by assumption) ?_; rotate_left
    · intro W hW; (try dsimp only at hW); go_simp;  try (with_reducible rfl)
    try simp only [Act.put, List.setIfInBounds_toArray, List.set_cons_zero, List.set_cons_succ]
    refine wpAnyH_take (i := 2) (oi := { dst := some 5, op := Op.binOp BinOp.neq 3 (Operand.tmp 4) (Operand.const (Value.int IntKind.i64 (-1))) 3, type := 4, pos := "l2_words.go:73", after := #[{ on := 1, ground := Ground.data }], guard := none }) (v := ?_) rfl (by kernel_rfl) (by kernel_rfl) (by kernel_rfl) (fun _ _ _ h => h) (Or.inl ⟨by rfl, ?_⟩) (by assumption) ?_; rotate_left
    · intro W hW; (try dsimp only at hW); go_simp;  try (with_reducible rfl)
    try simp only [Act.put, List.setIfInBounds_toArray, List.set_cons_zero, List.set_cons_succ]
    refine wpAnyH_take (i := 3) (oi := { dst := some 6, op := Op.move (Operand.tmp 5), type := 4, pos := "l2_words.go:73", after := #[{ on := 2, ground := Ground.data }], guard := none }) (v := ?_) rfl (by kernel_rfl) (by kernel_rfl) (by kernel_rfl) (fun _ _ _ h => h) (Or.inl ⟨by rfl, ?_⟩) (by assumption) ?_; rotate_left
    · intro W hW; (try dsimp only at hW); go_simp;  try (with_reducible rfl)
    try simp only [Act.put, List.setIfInBounds_toArray, List.set_cons_zero, List.set_cons_succ]
    refine wpAnyH_take (i := 4) (oi := { dst := some 7, op := Op.load 31 (Operand.tmp 1), type := 31, pos := "l2_words.go:73", after := #[{ on := 3, ground := Ground.guard }], guard := some (3, true) }) (v := ?_) rfl (by kernel_rfl) (by kernel_rfl) (by kernel_rfl) (fun _ _ _ h => h) (Or.inl ⟨by rfl, ?_⟩) (by assumption) ?_; rotate_left
    · intro W hW; (try dsimp only at hW); go_simp;  try (with_reducible rfl)
    try simp only [Act.put, List.setIfInBounds_toArray, List.set_cons_zero, List.set_cons_succ]
    refine wpAnyH_take (i := 6) (oi := { dst := some 9, op := Op.fieldAddr 31 (Operand.tmp 1) 0, type := 0, pos := "l2_words.go:73", after := #[{ on := 3, ground := Ground.guard }], guard := some (3, true) }) (v := ?_) rfl (by kernel_rfl) (by kernel_rfl) (by kernel_rfl) (fun _ _ _ h => h) (Or.inl ⟨by rfl, ?_⟩) (by assumption) ?_; rotate_left
    · intro W hW; (try dsimp only at hW); go_simp;  try (with_reducible rfl)
    try simp only [Act.put, List.setIfInBounds_toArray, List.set_cons_zero, List.set_cons_succ]
    refine wpAnyH_take (i := 7) (oi := { dst := some 10, op := Op.load 28 (Operand.tmp 9), type := 28, pos := "l2_words.go:73", after := #[{ on := 6, ground := Ground.data }, { on := 3, ground := Ground.guard }], guard := some (3, true) }) (v := ?_) rfl (by kernel_rfl) (by kernel_rfl) (by kernel_rfl) (fun _ _ _ h => h) (Or.inl ⟨by rfl, ?_⟩) (by assumption) ?_; rotate_left
    · intro W hW; (try dsimp only at hW); go_simp;  try (with_reducible rfl)
    try simp only [Act.put, List.setIfInBounds_toArray, List.set_cons_zero, List.set_cons_succ]
    refine wpAnyH_ready (rs := [5]) (by kernel_rfl) (by simp) (AllReadyH.cons (i := 5) (o := { dst := some 8, op := Op.call { callee := Callee.value (Operand.func 79), args := #[Operand.tmp 7], argTypes := #[31] }, type := 3, pos := "l2_words.go:73", after := #[{ on := 4, ground := Ground.data }, { on := 3, ground := Ground.chain }, { on := 3, ground := Ground.guard }], guard := some (3, true) }) rfl (fun K hK => ?_) AllReadyH.nil)
    go_simp
    refine ((unhide CN) _).mono ?_; rintro e w' ⟨rfl, hb⟩
    try go_wp2_with fail
    refine hK.out _ _ (by (try dsimp only); first | assumption | exact s0 | exact keep6 (by assumption) (by assumption)) (fun hHeld => ?_)
    clear hK K
    try simp only [Act.put, List.setIfInBounds_toArray, List.set_cons_zero, List.set_cons_succ]
    refine wpAnyH_ready (rs := [8]) (by kernel_rfl) (by simp) (AllReadyH.cons (i := 8) (o := { dst := some 11, op := Op.call { callee := Callee.value (Operand.func 50), args := #[Operand.tmp 10], argTypes := #[28] }, type := 3, pos := "l2_words.go:73", after := #[{ on := 7, ground := Ground.data }, { on := 5, ground := Ground.chain }, { on := 3, ground := Ground.guard }], guard := some (3, true) }) rfl (fun K hK => ?_) AllReadyH.nil)
    go_simp
    refine ((unhide CL) _).mono ?_; rintro e w' ⟨rfl, hb⟩
    try go_wp2_with fail
    refine hK.out _ _ (by (try dsimp only); first | assumption | exact s0 | exact keep6 (by assumption) (by assumption)) (fun hHeld => ?_)
    clear hK K
    try simp only [Act.put, List.setIfInBounds_toArray, List.set_cons_zero, List.set_cons_succ]
    refine wpAnyH_take (i := 9) (oi := { dst := some 12, op := Op.binOp BinOp.leq 3 (Operand.tmp 8) (Operand.tmp 11) 3, type := 4, pos := "l2_words.go:73", after := #[{ on := 5, ground := Ground.data }, { on := 8, ground := Ground.data }, { on := 3, ground := Ground.guard }], guard := some (3, true) }) (v := ?_) rfl (by kernel_rfl) (by kernel_rfl) (by kernel_rfl) (fun _ _ _ h => h) (Or.inl ⟨by rfl, ?_⟩) (by assumption) ?_; rotate_left
    · intro W hW; (try dsimp only at hW); go_simp;  try (with_reducible rfl)
    try simp only [Act.put, List.setIfInBounds_toArray, List.set_cons_zero, List.set_cons_succ]
    refine wpAnyH_take (i := 10) (oi := { dst := some 13, op := Op.pick (Operand.tmp 6) (Operand.tmp 12) (Operand.const (Value.bool false)), type := 4, pos := "l2_words.go:73", after := #[{ on := 3, ground := Ground.data }, { on := 9, ground := Ground.data }], guard := none }) (v := ?_) rfl (by kernel_rfl) (by kernel_rfl) (by kernel_rfl) (fun _ _ _ h => h) (Or.inl ⟨by rfl, ?_⟩) (by assumption) ?_; rotate_left
    · intro W hW; (try dsimp only at hW); go_simp;  try (with_reducible rfl)
    try simp only [Act.put, List.setIfInBounds_toArray, List.set_cons_zero, List.set_cons_succ]
    refine wpAnyH_take (i := 11) (oi := { dst := some 2, op := Op.assign (Operand.tmp 13), type := 4, pos := "l2_words.go:73", after := #[{ on := 10, ground := Ground.data }, { on := 8, ground := Ground.chain }, { on := 0, ground := Ground.phase }, { on := 1, ground := Ground.phase }, { on := 2, ground := Ground.phase }, { on := 3, ground := Ground.phase }, { on := 4, ground := Ground.phase }, { on := 5, ground := Ground.phase }, { on := 6, ground := Ground.phase }, { on := 7, ground := Ground.phase }, { on := 8, ground := Ground.phase }, { on := 9, ground := Ground.phase }, { on := 10, ground := Ground.phase }], guard := none }) (v := ?_) rfl (by kernel_rfl) (by kernel_rfl) (by kernel_rfl) (fun _ _ _ h => h) (Or.inl ⟨by rfl, ?_⟩) (by assumption) ?_; rotate_left
    · intro W hW; (try dsimp only at hW); go_simp;  try (with_reducible rfl)
    try simp only [Act.put, List.setIfInBounds_toArray, List.set_cons_zero, List.set_cons_succ]
    refine wpAnyH_done (by kernel_rfl) ?_ _
    go_wp2
    go_ret
    exact ⟨ret_bool HR.out.symm, hHeld.1⟩

set_option maxRecDepth 100000 in
set_option maxHeartbeats 2000000 in
theorem spec_l2Greatest (o l m : Int) (A : Option Addr) (n c : Nat) (b t : Int) (w : World) (hl0 : 0 ≤ l) (hl1 : l ≤ 8) (hm0 : 0 ≤ m) (hm1 : m ≤ 10) (hn : n ≤ 4000) :
    Calls Try.prog 92 #[kv o l m A n c b t] w fun e w' => e = .returned (.int .i64 (Sx.greatI l m n t)) ∧ Below w.heap.size w w' := by
  have t1 := Sx.two_pos l
  have t2 := Sx.two_lit (l := l) (by omega)
  have CG := hide (fun wx => spec_l2Grows o l m A n c b t wx hl0 hl1 hm0 hm1 hn)
  have CN := hide (fun wx => spec_l2Next o l m A n c b t wx hl0 hl1 hn)
  have kb := Blk.new w 31 #[.int .i64 o, .int .i64 l, .int .i64 m, .slice A n c, .int .i64 b, .int .i64 t]
  have s0 : Below w.heap.size w ((w.alloc (.cells #[.int .i64 o, .int .i64 l, .int .i64 m, .slice A n c, .int .i64 b, .int .i64 t] 31))) ∧ ((w.alloc (.cells #[.int .i64 o, .int .i64 l, .int .i64 m, .slice A n c, .int .i64 b, .int .i64 t] 31))).cell? ⟨w.heap.size, 0, none⟩ = some (.int .i64 o) ∧ ((w.alloc (.cells #[.int .i64 o, .int .i64 l, .int .i64 m, .slice A n c, .int .i64 b, .int .i64 t] 31))).cell? ⟨w.heap.size, 1, none⟩ = some (.int .i64 l) ∧ ((w.alloc (.cells #[.int .i64 o, .int .i64 l, .int .i64 m, .slice A n c, .int .i64 b, .int .i64 t] 31))).cell? ⟨w.heap.size, 2, none⟩ = some (.int .i64 m) ∧ ((w.alloc (.cells #[.int .i64 o, .int .i64 l, .int .i64 m, .slice A n c, .int .i64 b, .int .i64 t] 31))).cell? ⟨w.heap.size, 3, none⟩ = some (.slice A n c) ∧ ((w.alloc (.cells #[.int .i64 o, .int .i64 l, .int .i64 m, .slice A n c, .int .i64 b, .int .i64 t] 31))).cell? ⟨w.heap.size, 4, none⟩ = some (.int .i64 b) ∧ ((w.alloc (.cells #[.int .i64 o, .int .i64 l, .int .i64 m, .slice A n c, .int .i64 b, .int .i64 t] 31))).cell? ⟨w.heap.size, 5, none⟩ = some (.int .i64 t) := ⟨((Below.refl _ _).alloc (Nat.le_refl _) _), kb.cell 0, kb.cell 1, kb.cell 2, kb.cell 3, kb.cell 4, kb.cell 5⟩
  clear kb
  obtain ⟨B0, c0, c1, c2, c3, c4, c5⟩ := s0
  have s0 : Below w.heap.size w (w.alloc (.cells #[.int .i64 o, .int .i64 l, .int .i64 m, .slice A n c, .int .i64 b, .int .i64 t] 31)) ∧ (w.alloc (.cells #[.int .i64 o, .int .i64 l, .int .i64 m, .slice A n c, .int .i64 b, .int .i64 t] 31)).cell? ⟨w.heap.size, 0, none⟩ = some (.int .i64 o) ∧ (w.alloc (.cells #[.int .i64 o, .int .i64 l, .int .i64 m, .slice A n c, .int .i64 b, .int .i64 t] 31)).cell? ⟨w.heap.size, 1, none⟩ = some (.int .i64 l) ∧ (w.alloc (.cells #[.int .i64 o, .int .i64 l, .int .i64 m, .slice A n c, .int .i64 b, .int .i64 t] 31)).cell? ⟨w.heap.size, 2, none⟩ = some (.int .i64 m) ∧ (w.alloc (.cells #[.int .i64 o, .int .i64 l, .int .i64 m, .slice A n c, .int .i64 b, .int .i64 t] 31)).cell? ⟨w.heap.size, 3, none⟩ = some (.slice A n c) ∧ (w.alloc (.cells #[.int .i64 o, .int .i64 l, .int .i64 m, .slice A n c, .int .i64 b, .int .i64 t] 31)).cell? ⟨w.heap.size, 4, none⟩ = some (.int .i64 b) ∧ (w.alloc (.cells #[.int .i64 o, .int .i64 l, .int .i64 m, .slice A n c, .int .i64 b, .int .i64 t] 31)).cell? ⟨w.heap.size, 5, none⟩ = some (.int .i64 t) := ⟨B0, c0, c1, c2, c3, c4, c5⟩
  go_enter Try.func92, Try.ntmps92
  go_wp2_with fail
  refine ((unhide CG) _).mono ?_; rintro e w1 ⟨rfl, hb1⟩
  have s1 := keep6 hb1 s0
  clear s0 B0 c0 c1 c2 c3 c4 c5
  obtain ⟨B1, c0, c1, c2, c3, c4, c5⟩ := s1
  cases hg : Sx.growsB l m n t
  · have HR := hide (Sx.great_no hg)
    go_wp2_with fail
    refine ((unhide CN) _).mono ?_; rintro e w2 ⟨rfl, hb2⟩
    go_wp2_with fail
    go_ret
    exact ⟨ret_int (by rw [HR.out]; omega), below_next (Nat.le_refl _) B1 hb2⟩
  · have HR := hide (Sx.great_yes hg)
    go_wp2_with fail
    refine ((unhide CN) _).mono ?_; rintro e w2 ⟨rfl, hb2⟩
    go_wp2_with fail
    go_ret
    exact ⟨ret_int HR.out.symm, below_next (Nat.le_refl _) B1 hb2⟩

set_option maxRecDepth 100000 in
set_option maxHeartbeats 2000000 in
theorem impl_greatest (o l m : Int) (A : Option Addr) (n c : Nat) (b t : Int) (w : World) (h0 : Sx.setOK o l m = true) (hn : n ≤ 4000) (ht : t = -1 ∨ 0 ≤ t) :
    Calls Try.prog 81 #[kv o l m A n c b t] w fun e w' => e = .returned (.int .i64 (Sx.greatI l m n t)) ∧ Below w.heap.size w w' := by
  have hbd := Sx.setOK_bd h0
  have t1 := Sx.two_pos l
  have t2 := Sx.two_lit (l := l) (by omega)
  have CG := hide (fun wx => impl_grows o l m A n c b t wx h0 hn ht)
  have CN := hide (fun wx => impl_nextWord o l m A n c b t wx h0 hn)
  have kb := Blk.new w 31 #[.int .i64 o, .int .i64 l, .int .i64 m, .slice A n c, .int .i64 b, .int .i64 t]
  have s0 : Below w.heap.size w ((w.alloc (.cells #[.int .i64 o, .int .i64 l, .int .i64 m, .slice A n c, .int .i64 b, .int .i64 t] 31))) ∧ ((w.alloc (.cells #[.int .i64 o, .int .i64 l, .int .i64 m, .slice A n c, .int .i64 b, .int .i64 t] 31))).cell? ⟨w.heap.size, 0, none⟩ = some (.int .i64 o) ∧ ((w.alloc (.cells #[.int .i64 o, .int .i64 l, .int .i64 m, .slice A n c, .int .i64 b, .int .i64 t] 31))).cell? ⟨w.heap.size, 1, none⟩ = some (.int .i64 l) ∧ ((w.alloc (.cells #[.int .i64 o, .int .i64 l, .int .i64 m, .slice A n c, .int .i64 b, .int .i64 t] 31))).cell? ⟨w.heap.size, 2, none⟩ = some (.int .i64 m) ∧ ((w.alloc (.cells #[.int .i64 o, .int .i64 l, .int .i64 m, .slice A n c, .int .i64 b, .int .i64 t] 31))).cell? ⟨w.heap.size, 3, none⟩ = some (.slice A n c) ∧ ((w.alloc (.cells #[.int .i64 o, .int .i64 l, .int .i64 m, .slice A n c, .int .i64 b, .int .i64 t] 31))).cell? ⟨w.heap.size, 4, none⟩ = some (.int .i64 b) ∧ ((w.alloc (.cells #[.int .i64 o, .int .i64 l, .int .i64 m, .slice A n c, .int .i64 b, .int .i64 t] 31))).cell? ⟨w.heap.size, 5, none⟩ = some (.int .i64 t) := ⟨((Below.refl _ _).alloc (Nat.le_refl _) _), kb.cell 0, kb.cell 1, kb.cell 2, kb.cell 3, kb.cell 4, kb.cell 5⟩
  clear kb
  obtain ⟨B0, c0, c1, c2, c3, c4, c5⟩ := s0
  have s0 : Below w.heap.size w (w.alloc (.cells #[.int .i64 o, .int .i64 l, .int .i64 m, .slice A n c, .int .i64 b, .int .i64 t] 31)) ∧ (w.alloc (.cells #[.int .i64 o, .int .i64 l, .int .i64 m, .slice A n c, .int .i64 b, .int .i64 t] 31)).cell? ⟨w.heap.size, 0, none⟩ = some (.int .i64 o) ∧ (w.alloc (.cells #[.int .i64 o, .int .i64 l, .int .i64 m, .slice A n c, .int .i64 b, .int .i64 t] 31)).cell? ⟨w.heap.size, 1, none⟩ = some (.int .i64 l) ∧ (w.alloc (.cells #[.int .i64 o, .int .i64 l, .int .i64 m, .slice A n c, .int .i64 b, .int .i64 t] 31)).cell? ⟨w.heap.size, 2, none⟩ = some (.int .i64 m) ∧ (w.alloc (.cells #[.int .i64 o, .int .i64 l, .int .i64 m, .slice A n c, .int .i64 b, .int .i64 t] 31)).cell? ⟨w.heap.size, 3, none⟩ = some (.slice A n c) ∧ (w.alloc (.cells #[.int .i64 o, .int .i64 l, .int .i64 m, .slice A n c, .int .i64 b, .int .i64 t] 31)).cell? ⟨w.heap.size, 4, none⟩ = some (.int .i64 b) ∧ (w.alloc (.cells #[.int .i64 o, .int .i64 l, .int .i64 m, .slice A n c, .int .i64 b, .int .i64 t] 31)).cell? ⟨w.heap.size, 5, none⟩ = some (.int .i64 t) := ⟨B0, c0, c1, c2, c3, c4, c5⟩
  go_enter Try.func81, Try.ntmps81
  go_wp2_with fail
  refine ((unhide CG) _).mono ?_; rintro e w1 ⟨rfl, hb1⟩
  have s1 := keep6 hb1 s0
  clear s0 B0 c0 c1 c2 c3 c4 c5
  obtain ⟨B1, c0, c1, c2, c3, c4, c5⟩ := s1
  cases hg : Sx.growsB l m n t
  · have HR := hide (Sx.great_no hg)
    go_wp2_with fail
    refine ((unhide CN) _).mono ?_; rintro e w2 ⟨rfl, hb2⟩
    go_wp2_with fail
    go_ret
    exact ⟨ret_int (by rw [HR.out]; omega), below_next (Nat.le_refl _) B1 hb2⟩
  · have HR := hide (Sx.great_yes hg)
    go_wp2_with fail
    refine ((unhide CN) _).mono ?_; rintro e w2 ⟨rfl, hb2⟩
    go_wp2_with fail
    go_ret
    exact ⟨ret_int HR.out.symm, below_next (Nat.le_refl _) B1 hb2⟩

set_option maxRecDepth 100000 in
set_option maxHeartbeats 2000000 in
theorem spec_l2Width (o l m : Int) (A : Option Addr) (n c : Nat) (b t : Int) (w : World) (hl0 : 0 ≤ l) (hl1 : l ≤ 8) (hm0 : 0 ≤ m) (hm1 : m ≤ 10) (hn : n ≤ 4000) :
    Calls Try.prog 93 #[kv o l m A n c b t] w fun e w' => e = .returned (.int .i64 (Sx.widthI l m n t)) ∧ Below w.heap.size w w' := by
  have t1 := Sx.two_pos l
  have t2 := Sx.two_lit (l := l) (by omega)
  have hg := Sx.great_bd l m n t
  have CG := hide (fun wx => spec_l2Greatest o l m A n c b t wx hl0 hl1 hm0 hm1 hn)
  have CN := hide (fun wx => by
    have := spec_l1Needed (Sx.greatI l m n t).toNat wx (by omega)
    rwa [show (((Sx.greatI l m n t).toNat : Nat) : Int) = Sx.greatI l m n t from by omega] at this)
  have HR := hide (show Sx.widthI l m n t = max (l + 1) (Sx.need (Sx.greatI l m n t).toNat : Int) by unfold Sx.widthI Sx.needI; rw [if_neg (by omega)])
  have e1 : IntKind.i64.wrap (l + 1) = l + 1 := IntWalk.i64_in _ (by omega)
  have kb := Blk.new w 31 #[.int .i64 o, .int .i64 l, .int .i64 m, .slice A n c, .int .i64 b, .int .i64 t]
  have s0 : Below w.heap.size w ((w.alloc (.cells #[.int .i64 o, .int .i64 l, .int .i64 m, .slice A n c, .int .i64 b, .int .i64 t] 31)).drew) ∧ ((w.alloc (.cells #[.int .i64 o, .int .i64 l, .int .i64 m, .slice A n c, .int .i64 b, .int .i64 t] 31)).drew).cell? ⟨w.heap.size, 0, none⟩ = some (.int .i64 o) ∧ ((w.alloc (.cells #[.int .i64 o, .int .i64 l, .int .i64 m, .slice A n c, .int .i64 b, .int .i64 t] 31)).drew).cell? ⟨w.heap.size, 1, none⟩ = some (.int .i64 l) ∧ ((w.alloc (.cells #[.int .i64 o, .int .i64 l, .int .i64 m, .slice A n c, .int .i64 b, .int .i64 t] 31)).drew).cell? ⟨w.heap.size, 2, none⟩ = some (.int .i64 m) ∧ ((w.alloc (.cells #[.int .i64 o, .int .i64 l, .int .i64 m, .slice A n c, .int .i64 b, .int .i64 t] 31)).drew).cell? ⟨w.heap.size, 3, none⟩ = some (.slice A n c) ∧ ((w.alloc (.cells #[.int .i64 o, .int .i64 l, .int .i64 m, .slice A n c, .int .i64 b, .int .i64 t] 31)).drew).cell? ⟨w.heap.size, 4, none⟩ = some (.int .i64 b) ∧ ((w.alloc (.cells #[.int .i64 o, .int .i64 l, .int .i64 m, .slice A n c, .int .i64 b, .int .i64 t] 31)).drew).cell? ⟨w.heap.size, 5, none⟩ = some (.int .i64 t) := ⟨((Below.refl _ _).alloc (Nat.le_refl _) _).drew, kb.cell 0, kb.cell 1, kb.cell 2, kb.cell 3, kb.cell 4, kb.cell 5⟩
  clear kb
  go_enter Try.func93, Try.ntmps93
  go_wp2_with fail
  refine wp_region_held_drew (S := (fun W => Below w.heap.size w W ∧ W.cell? ⟨w.heap.size, 0, none⟩ = some (.int .i64 o) ∧ W.cell? ⟨w.heap.size, 1, none⟩ = some (.int .i64 l) ∧ W.cell? ⟨w.heap.size, 2, none⟩ = some (.int .i64 m) ∧ W.cell? ⟨w.heap.size, 3, none⟩ = some (.slice A n c) ∧ W.cell? ⟨w.heap.size, 4, none⟩ = some (.int .i64 b) ∧ W.cell? ⟨w.heap.size, 5, none⟩ = some (.int .i64 t))) (by kernel_rfl) (by first | assumption | exact s0 | exact keep6 (by assumption) (by assumption)) (fun hHeld => ?_)
  refine wpAnyH_take (i := 0) (oi := { dst := some 3, op := Op.fieldAddr 31 (Operand.tmp 1) 0, type := 0, pos := "l2_words.go:47", after := #[], guard := none }) (v := ?_) rfl (by kernel_rfl) (by kernel_rfl) (by kernel_rfl) (fun _ _ _ h => h) (Or.inl ⟨by rfl, ?_⟩) (by assumption) ?_; rotate_left
  · intro W hW; (try dsimp only at hW); go_simp;  try (with_reducible rfl)
  try simp only [Act.put, List.setIfInBounds_toArray, List.set_cons_zero, List.set_cons_succ]
  refine wpAnyH_take (i := 1) (oi := { dst := some 4, op := Op.fieldAddr 28 (Operand.tmp 3) 1, type := 0, pos := "l2_words.go:47", after := #[{ on := 0, ground := Ground.data }], guard := none }) (v := ?_) rfl (by kernel_rfl) (by kernel_rfl) (by kernel_rfl) (fun _ _ _ h => h) (Or.inl ⟨by rfl, ?_⟩) (by assumption) ?_; rotate_left
  · intro W hW; (try dsimp only at hW); go_simp;  try (with_reducible rfl)
  try simp only [Act.put, List.setIfInBounds_toArray, List.set_cons_zero, List.set_cons_succ]
  refine wpAnyH_take (i := 2) (oi := { dst := some 5, op := Op.load 3 (Operand.tmp 4), type := 3, pos := "l2_words.go:47", after := #[{ on := 1, ground := Ground.data }], guard := none }) (v := ?_) rfl (by kernel_rfl) (by kernel_rfl) (by kernel_rfl) (fun _ _ _ h => h) (Or.inl ⟨by rfl, ?_⟩) (by assumption) ?_; rotate_left
  · intro W hW; (try dsimp only at hW); go_simp;  try (with_reducible rfl)
  try simp only [Act.put, List.setIfInBounds_toArray, List.set_cons_zero, List.set_cons_succ]
  refine wpAnyH_take (i := 3) (oi := { dst := some 6, op := Op.binOp BinOp.add 3 (Operand.tmp 5) (Operand.const (Value.int IntKind.i64 1)) 3, type := 3, pos := "l2_words.go:47", after := #[{ on := 2, ground := Ground.data }], guard := none }) (v := ?_) rfl (by kernel_rfl) (by kernel_rfl) (by kernel_rfl) (fun _ _ _ h => h) (Or.inl ⟨by rfl, ?_⟩) (by assumption) ?_; rotate_left
  · intro W hW; (try dsimp only at hW); go_simp;  try (with_reducible rfl)
  try simp only [Act.put, List.setIfInBounds_toArray, List.set_cons_zero, List.set_cons_succ]
  refine wpAnyH_take (i := 4) (oi := { dst := some 7, op := Op.load 31 (Operand.tmp 1), type := 31, pos := "l2_words.go:47", after := #[], guard := none }) (v := ?_) rfl (by kernel_rfl) (by kernel_rfl) (by kernel_rfl) (fun _ _ _ h => h) (Or.inl ⟨by rfl, ?_⟩) (by assumption) ?_; rotate_left
  · intro W hW; (try dsimp only at hW); go_simp;  try (with_reducible rfl)
  try simp only [Act.put, List.setIfInBounds_toArray, List.set_cons_zero, List.set_cons_succ]
  refine wpAnyH_ready (rs := [5]) (by kernel_rfl) (by simp) (AllReadyH.cons (i := 5) (o := { dst := some 8, op := Op.call { callee := Callee.value (Operand.func 92), args := #[Operand.tmp 7], argTypes := #[31] }, type := 3, pos := "l2_words.go:47", after := #[{ on := 4, ground := Ground.data }], guard := none }) rfl (fun K hK => ?_) AllReadyH.nil)
  go_simp
  refine ((unhide CG) _).mono ?_; rintro e w' ⟨rfl, hb⟩
  try go_wp2_with fail
  refine hK.out _ _ (by (try dsimp only); first | assumption | exact s0 | exact keep6 (by assumption) (by assumption)) (fun hHeld => ?_)
  clear hK K
  try simp only [Act.put, List.setIfInBounds_toArray, List.set_cons_zero, List.set_cons_succ]
  refine wpAnyH_ready (rs := [6]) (by kernel_rfl) (by simp) (AllReadyH.cons (i := 6) (o := { dst := some 9, op := Op.call { callee := Callee.value (Operand.func 110), args := #[Operand.tmp 8], argTypes := #[3] }, type := 3, pos := "l2_words.go:47", after := #[{ on := 5, ground := Ground.data }, { on := 5, ground := Ground.chain }], guard := none }) rfl (fun K hK => ?_) AllReadyH.nil)
  go_simp
  refine ((unhide CN) _).mono ?_; rintro e w' ⟨rfl, rfl⟩
  try go_wp2_with fail
  refine hK.out _ _ (by (try dsimp only); first | assumption | exact s0 | exact keep6 (by assumption) (by assumption)) (fun hHeld => ?_)
  clear hK K
  try simp only [Act.put, List.setIfInBounds_toArray, List.set_cons_zero, List.set_cons_succ]
  refine wpAnyH_take (i := 7) (oi := { dst := some 10, op := Op.call { callee := Callee.builtin Builtin.max, args := #[Operand.tmp 6, Operand.tmp 9], argTypes := #[3, 3] }, type := 3, pos := "l2_words.go:47", after := #[{ on := 3, ground := Ground.data }, { on := 6, ground := Ground.data }], guard := none }) (v := ?_) rfl (by kernel_rfl) (by kernel_rfl) (by kernel_rfl) (fun _ _ _ h => h) (Or.inl ⟨by rfl, ?_⟩) (by assumption) ?_; rotate_left
  · intro W hW; (try dsimp only at hW); go_simp;  try (with_reducible rfl)
  try simp only [Act.put, List.setIfInBounds_toArray, List.set_cons_zero, List.set_cons_succ]
  refine wpAnyH_take (i := 8) (oi := { dst := some 2, op := Op.assign (Operand.tmp 10), type := 3, pos := "l2_words.go:47", after := #[{ on := 7, ground := Ground.data }, { on := 6, ground := Ground.chain }, { on := 0, ground := Ground.phase }, { on := 1, ground := Ground.phase }, { on := 2, ground := Ground.phase }, { on := 3, ground := Ground.phase }, { on := 4, ground := Ground.phase }, { on := 5, ground := Ground.phase }, { on := 6, ground := Ground.phase }, { on := 7, ground := Ground.phase }], guard := none }) (v := ?_) rfl (by kernel_rfl) (by kernel_rfl) (by kernel_rfl) (fun _ _ _ h => h) (Or.inl ⟨by rfl, ?_⟩) (by assumption) ?_; rotate_left
  · intro W hW; (try dsimp only at hW); go_simp;  try (with_reducible rfl)
  try simp only [Act.put, List.setIfInBounds_toArray, List.set_cons_zero, List.set_cons_succ]
  refine wpAnyH_done (by kernel_rfl) ?_ _
  go_wp2
  go_ret
  exact ⟨ret_int HR.out.symm, hHeld.1⟩

set_option maxRecDepth 100000 in
set_option maxHeartbeats 2000000 in
theorem impl_width (o l m : Int) (A : Option Addr) (n c : Nat) (b t : Int) (w : World) (h0 : Sx.setOK o l m = true) (hn : n ≤ 4000) (ht : t = -1 ∨ 0 ≤ t) :
    Calls Try.prog 74 #[kv o l m A n c b t] w fun e w' => e = .returned (.int .i64 (Sx.widthI l m n t)) ∧ Below w.heap.size w w' := by
  have hbd := Sx.setOK_bd h0
  have t1 := Sx.two_pos l
  have t2 := Sx.two_lit (l := l) (by omega)
  have hg := Sx.great_bd l m n t
  have CG := hide (fun wx => impl_greatest o l m A n c b t wx h0 hn ht)
  have CN := hide (fun wx => impl_BitsNeeded (Sx.greatI l m n t) wx (by omega) (by omega))
  have HR := hide (show Sx.widthI l m n t = max (Sx.needI (Sx.greatI l m n t)) (l + 1) from Int.max_comm _ _)
  have e1 : IntKind.i64.wrap (l + 1) = l + 1 := IntWalk.i64_in _ (by omega)
  have kb := Blk.new w 31 #[.int .i64 o, .int .i64 l, .int .i64 m, .slice A n c, .int .i64 b, .int .i64 t]
  have s0 : Below w.heap.size w ((w.alloc (.cells #[.int .i64 o, .int .i64 l, .int .i64 m, .slice A n c, .int .i64 b, .int .i64 t] 31)).drew) ∧ ((w.alloc (.cells #[.int .i64 o, .int .i64 l, .int .i64 m, .slice A n c, .int .i64 b, .int .i64 t] 31)).drew).cell? ⟨w.heap.size, 0, none⟩ = some (.int .i64 o) ∧ ((w.alloc (.cells #[.int .i64 o, .int .i64 l, .int .i64 m, .slice A n c, .int .i64 b, .int .i64 t] 31)).drew).cell? ⟨w.heap.size, 1, none⟩ = some (.int .i64 l) ∧ ((w.alloc (.cells #[.int .i64 o, .int .i64 l, .int .i64 m, .slice A n c, .int .i64 b, .int .i64 t] 31)).drew).cell? ⟨w.heap.size, 2, none⟩ = some (.int .i64 m) ∧ ((w.alloc (.cells #[.int .i64 o, .int .i64 l, .int .i64 m, .slice A n c, .int .i64 b, .int .i64 t] 31)).drew).cell? ⟨w.heap.size, 3, none⟩ = some (.slice A n c) ∧ ((w.alloc (.cells #[.int .i64 o, .int .i64 l, .int .i64 m, .slice A n c, .int .i64 b, .int .i64 t] 31)).drew).cell? ⟨w.heap.size, 4, none⟩ = some (.int .i64 b) ∧ ((w.alloc (.cells #[.int .i64 o, .int .i64 l, .int .i64 m, .slice A n c, .int .i64 b, .int .i64 t] 31)).drew).cell? ⟨w.heap.size, 5, none⟩ = some (.int .i64 t) := ⟨((Below.refl _ _).alloc (Nat.le_refl _) _).drew, kb.cell 0, kb.cell 1, kb.cell 2, kb.cell 3, kb.cell 4, kb.cell 5⟩
  clear kb
  go_enter Try.func74, Try.ntmps74
  go_wp2_with fail
  refine wp_region_held_drew (S := (fun W => Below w.heap.size w W ∧ W.cell? ⟨w.heap.size, 0, none⟩ = some (.int .i64 o) ∧ W.cell? ⟨w.heap.size, 1, none⟩ = some (.int .i64 l) ∧ W.cell? ⟨w.heap.size, 2, none⟩ = some (.int .i64 m) ∧ W.cell? ⟨w.heap.size, 3, none⟩ = some (.slice A n c) ∧ W.cell? ⟨w.heap.size, 4, none⟩ = some (.int .i64 b) ∧ W.cell? ⟨w.heap.size, 5, none⟩ = some (.int .i64 t))) (by kernel_rfl) (by first | assumption | exact s0 | exact keep6 (by assumption) (by assumption)) (fun hHeld => ?_)
  refine wpAnyH_take (i := 0) (oi := { dst := some 3, op := Op.load 31 (Operand.tmp 1), type := 31, pos := "l2_words.go:82", after := #[], guard := none }) (v := ?_) rfl (by kernel_rfl) (by kernel_rfl) (by kernel_rfl) (fun _ _ _ h => h) (Or.inl ⟨by rfl, ?_⟩) (by assumption) ?_; rotate_left
  · intro W hW; (try dsimp only at hW); go_simp;  try (with_reducible rfl)
  try simp only [Act.put, List.setIfInBounds_toArray, List.set_cons_zero, List.set_cons_succ]
  refine wpAnyH_take (i := 3) (oi := { dst := some 6, op := Op.fieldAddr 31 (Operand.tmp 1) 0, type := 0, pos := "l2_words.go:82", after := #[], guard := none }) (v := ?_) rfl (by kernel_rfl) (by kernel_rfl) (by kernel_rfl) (fun _ _ _ h => h) (Or.inl ⟨by rfl, ?_⟩) (by assumption) ?_; rotate_left
  · intro W hW; (try dsimp only at hW); go_simp;  try (with_reducible rfl)
  try simp only [Act.put, List.setIfInBounds_toArray, List.set_cons_zero, List.set_cons_succ]
  refine wpAnyH_take (i := 4) (oi := { dst := some 7, op := Op.fieldAddr 28 (Operand.tmp 6) 1, type := 0, pos := "l2_words.go:82", after := #[{ on := 3, ground := Ground.data }], guard := none }) (v := ?_) rfl (by kernel_rfl) (by kernel_rfl) (by kernel_rfl) (fun _ _ _ h => h) (Or.inl ⟨by rfl, ?_⟩) (by assumption) ?_; rotate_left
  · intro W hW; (try dsimp only at hW); go_simp;  try (with_reducible rfl)
  try simp only [Act.put, List.setIfInBounds_toArray, List.set_cons_zero, List.set_cons_succ]
  refine wpAnyH_take (i := 5) (oi := { dst := some 8, op := Op.load 3 (Operand.tmp 7), type := 3, pos := "l2_words.go:82", after := #[{ on := 4, ground := Ground.data }], guard := none }) (v := ?_) rfl (by kernel_rfl) (by kernel_rfl) (by kernel_rfl) (fun _ _ _ h => h) (Or.inl ⟨by rfl, ?_⟩) (by assumption) ?_; rotate_left
  · intro W hW; (try dsimp only at hW); go_simp;  try (with_reducible rfl)
  try simp only [Act.put, List.setIfInBounds_toArray, List.set_cons_zero, List.set_cons_succ]
  refine wpAnyH_take (i := 6) (oi := { dst := some 9, op := Op.binOp BinOp.add 3 (Operand.tmp 8) (Operand.const (Value.int IntKind.i64 1)) 3, type := 3, pos := "l2_words.go:82", after := #[{ on := 5, ground := Ground.data }], guard := none }) (v := ?_) rfl (by kernel_rfl) (by kernel_rfl) (by kernel_rfl) (fun _ _ _ h => h) (Or.inl ⟨by rfl, ?_⟩) (by assumption) ?_; rotate_left
  · intro W hW; (try dsimp only at hW); go_simp;  try (with_reducible rfl)
  try simp only [Act.put, List.setIfInBounds_toArray, List.set_cons_zero, List.set_cons_succ]
  refine wpAnyH_ready (rs := [1]) (by kernel_rfl) (by simp) (AllReadyH.cons (i := 1) (o := { dst := some 4, op := Op.call { callee := Callee.value (Operand.func 81), args := #[Operand.tmp 3], argTypes := #[31] }, type := 3, pos := "l2_words.go:82", after := #[{ on := 0, ground := Ground.data }], guard := none }) rfl (fun K hK => ?_) AllReadyH.nil)
  go_simp
  refine ((unhide CG) _).mono ?_; rintro e w' ⟨rfl, hb⟩
  try go_wp2_with fail
  refine hK.out _ _ (by (try dsimp only); first | assumption | exact s0 | exact keep6 (by assumption) (by assumption)) (fun hHeld => ?_)
  clear hK K
  try simp only [Act.put, List.setIfInBounds_toArray, List.set_cons_zero, List.set_cons_succ]
  refine wpAnyH_ready (rs := [2]) (by kernel_rfl) (by simp) (AllReadyH.cons (i := 2) (o := { dst := some 5, op := Op.call { callee := Callee.value (Operand.func 53), args := #[Operand.tmp 4], argTypes := #[3] }, type := 3, pos := "l2_words.go:82", after := #[{ on := 1, ground := Ground.data }, { on := 1, ground := Ground.chain }], guard := none }) rfl (fun K hK => ?_) AllReadyH.nil)
  go_simp
  refine ((unhide CN) _).mono ?_; rintro e w' ⟨rfl, rfl⟩
  try go_wp2_with fail
  refine hK.out _ _ (by (try dsimp only); first | assumption | exact s0 | exact keep6 (by assumption) (by assumption)) (fun hHeld => ?_)
  clear hK K
  try simp only [Act.put, List.setIfInBounds_toArray, List.set_cons_zero, List.set_cons_succ]
  refine wpAnyH_take (i := 7) (oi := { dst := some 10, op := Op.call { callee := Callee.builtin Builtin.max, args := #[Operand.tmp 5, Operand.tmp 9], argTypes := #[3, 3] }, type := 3, pos := "l2_words.go:82", after := #[{ on := 2, ground := Ground.data }, { on := 6, ground := Ground.data }], guard := none }) (v := ?_) rfl (by kernel_rfl) (by kernel_rfl) (by kernel_rfl) (fun _ _ _ h => h) (Or.inl ⟨by rfl, ?_⟩) (by assumption) ?_; rotate_left
  · intro W hW; (try dsimp only at hW); go_simp;  try (with_reducible rfl)
  try simp only [Act.put, List.setIfInBounds_toArray, List.set_cons_zero, List.set_cons_succ]
  refine wpAnyH_take (i := 8) (oi := { dst := some 2, op := Op.assign (Operand.tmp 10), type := 3, pos := "l2_words.go:82", after := #[{ on := 7, ground := Ground.data }, { on := 2, ground := Ground.chain }, { on := 0, ground := Ground.phase }, { on := 1, ground := Ground.phase }, { on := 2, ground := Ground.phase }, { on := 3, ground := Ground.phase }, { on := 4, ground := Ground.phase }, { on := 5, ground := Ground.phase }, { on := 6, ground := Ground.phase }, { on := 7, ground := Ground.phase }], guard := none }) (v := ?_) rfl (by kernel_rfl) (by kernel_rfl) (by kernel_rfl) (fun _ _ _ h => h) (Or.inl ⟨by rfl, ?_⟩) (by assumption) ?_; rotate_left
  · intro W hW; (try dsimp only at hW); go_simp;  try (with_reducible rfl)
  try simp only [Act.put, List.setIfInBounds_toArray, List.set_cons_zero, List.set_cons_succ]
  refine wpAnyH_done (by kernel_rfl) ?_ _
  go_wp2
  go_ret
  exact ⟨ret_int HR.out.symm, hHeld.1⟩
end Go.Proofs.Ytegfcpdkehgdpaa

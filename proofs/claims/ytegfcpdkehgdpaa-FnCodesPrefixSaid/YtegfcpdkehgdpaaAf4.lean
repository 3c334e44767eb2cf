/- The walk of what is known after a clear code, of the reference. Conditions: the pairs' cells lie below the call's own memory. -/
import Derived.Test.YtegfcpdkehgdpaaAf3
namespace Go.Proofs.Ytegfcpdkehgdpaa
open Go.RowKit

theorem PR.cut {w : World} {B : Nat} {A : Option Addr} {ps : List (Int × Int)} (h : PR w B A ps) (k : Nat) : PR w B A (ps.take k) := fun h0 => by
  rw [List.length_take] at h0
  obtain ⟨g, off, rfl, hg, hc⟩ := h (by omega)
  refine ⟨g, off, rfl, hg, fun j hj => ?_⟩
  rw [List.length_take] at hj
  have := hc j (by omega)
  rw [List.getElem_take]; exact this
theorem far_cell {W : World} {b g i j : Nat} {u v : Value} (h : W.cell? ⟨b, i, none⟩ = some v) (hg : b < g) : (W.setCell ⟨g, j, none⟩ u).cell? ⟨b, i, none⟩ = some v :=
  (World.cell?_setCell_other W ⟨g, j, none⟩ ⟨b, i, none⟩ u (fun e => by injection e; omega)).trans h
theorem keepSet6 {w W : World} {b g j : Nat} {u v0 v1 v2 v3 v4 v5 : Value} (h : Below w.heap.size w W ∧ W.cell? ⟨b, 0, none⟩ = some v0 ∧ W.cell? ⟨b, 1, none⟩ = some v1 ∧ W.cell? ⟨b, 2, none⟩ = some v2 ∧ W.cell? ⟨b, 3, none⟩ = some v3 ∧ W.cell? ⟨b, 4, none⟩ = some v4 ∧ W.cell? ⟨b, 5, none⟩ = some v5) (hg : b < g) (hb : w.heap.size ≤ b) : Below w.heap.size w (W.setCell ⟨g, j, none⟩ u) ∧ (W.setCell ⟨g, j, none⟩ u).cell? ⟨b, 0, none⟩ = some v0 ∧ (W.setCell ⟨g, j, none⟩ u).cell? ⟨b, 1, none⟩ = some v1 ∧ (W.setCell ⟨g, j, none⟩ u).cell? ⟨b, 2, none⟩ = some v2 ∧ (W.setCell ⟨g, j, none⟩ u).cell? ⟨b, 3, none⟩ = some v3 ∧ (W.setCell ⟨g, j, none⟩ u).cell? ⟨b, 4, none⟩ = some v4 ∧ (W.setCell ⟨g, j, none⟩ u).cell? ⟨b, 5, none⟩ = some v5 :=
  ⟨belowSet h.1 (by omega) u, far_cell h.2.1 hg, far_cell h.2.2.1 hg, far_cell h.2.2.2.1 hg, far_cell h.2.2.2.2.1 hg, far_cell h.2.2.2.2.2.1 hg, far_cell h.2.2.2.2.2.2 hg⟩

theorem own_cap {w : World} {base n size c : Nat} {e : TypeId} {A : Option Addr} {xs : List Value} (h : w.ownsRow base e size (.slice A n c) n xs) : n ≤ c := by
  rcases own_cases h with ⟨_, _, h⟩ | ⟨_, _, h⟩
  · omega
  · exact h
theorem own_emptyP (w : World) (t : TypeId) (size base : Nat) (h : w.heap.size = base) : (w.alloc (.cells #[] t)).ownsRow base t size (.slice (some ⟨base, 0, none⟩) 0 0) 0 [] := by
  subst h
  exact ⟨by simp, .inr ⟨w.heap.size, 0, #[], rfl, Nat.le_refl _, heap_alloc_new w _, Nat.le_refl _, Nat.zero_le _, by simp, by simp⟩⟩
theorem keepG6' {w W W' : World} {b : Nat} {row : Option Nat} {v0 v1 v2 v3 v4 v5 : Value} (h : Below w.heap.size w W ∧ W.cell? ⟨b, 0, none⟩ = some v0 ∧ W.cell? ⟨b, 1, none⟩ = some v1 ∧ W.cell? ⟨b, 2, none⟩ = some v2 ∧ W.cell? ⟨b, 3, none⟩ = some v3 ∧ W.cell? ⟨b, 4, none⟩ = some v4 ∧ W.cell? ⟨b, 5, none⟩ = some v5) (hg : W.grownBy W' row) (hb : some b ≠ row) (hr : ∀ k, row = some k → w.heap.size ≤ k) : Below w.heap.size w W' ∧ W'.cell? ⟨b, 0, none⟩ = some v0 ∧ W'.cell? ⟨b, 1, none⟩ = some v1 ∧ W'.cell? ⟨b, 2, none⟩ = some v2 ∧ W'.cell? ⟨b, 3, none⟩ = some v3 ∧ W'.cell? ⟨b, 4, none⟩ = some v4 ∧ W'.cell? ⟨b, 5, none⟩ = some v5 :=
  ⟨h.1.grown hg h.1.size hr, hg.cell h.2.1 hb, hg.cell h.2.2.1 hb, hg.cell h.2.2.2.1 hb, hg.cell h.2.2.2.2.1 hb, hg.cell h.2.2.2.2.2.1 hb, hg.cell h.2.2.2.2.2.2 hb⟩

set_option maxRecDepth 100000 in
set_option maxHeartbeats 2000000 in
theorem spec_l2Cleared (o l m : Int) (A : Option Addr) (c : Nat) (b t : Int) (ps : List (Int × Int)) (w : World) (hr : PR w w.heap.size A ps) (hz : ps.length ≤ 1024) (hb0 : 0 ≤ b) (hb1 : b ≤ (ps.length : Int)) (hc : ps.length ≤ c) :
    Calls Try.prog 100 #[kv o l m A ps.length c b t] w fun e w' => ∃ A' c', e = .returned (kv o l m A' (ps.take b.toNat).length c' b (-1)) ∧ OwnP w' w.heap.size A' (ps.take b.toNat) ∧ (ps.take b.toNat).length ≤ c' ∧ Below w.heap.size w w' := by
  have hkl : (ps.take b.toNat).length = b.toNat := by rw [List.length_take]; omega
  have hbc : b ≤ (c : Int) := by omega
  obtain ⟨i0, hi0, hz0, hz1, hz2⟩ := info_parts try_infoP
  have B0 : Below w.heap.size w ((w.alloc (.cells #[.int .i64 o, .int .i64 l, .int .i64 m, .slice A ps.length c, .int .i64 b, .int .i64 t] 31)).alloc (.cells #[.int .i64 0, .int .i64 0, .int .i64 0, .slice none 0 0, .int .i64 0, .int .i64 0] 31)) := ((Below.refl _ _).alloc (Nat.le_refl _) _).alloc (by simp) _
  have K0 := (Blk.new w 31 #[.int .i64 o, .int .i64 l, .int .i64 m, .slice A ps.length c, .int .i64 b, .int .i64 t]).alloc (.cells #[.int .i64 0, .int .i64 0, .int .i64 0, .slice none 0 0, .int .i64 0, .int .i64 0] 31)
  have R0 := blk_new2 w (.cells #[.int .i64 o, .int .i64 l, .int .i64 m, .slice A ps.length c, .int .i64 b, .int .i64 t] 31) 31 #[.int .i64 0, .int .i64 0, .int .i64 0, .slice none 0 0, .int .i64 0, .int .i64 0]
  have P0 := ((hr.keep B0.size B0).cut (b).toNat).reads
  rw [hkl] at P0
  have s0 : Below w.heap.size w ((w.alloc (.cells #[.int .i64 o, .int .i64 l, .int .i64 m, .slice A ps.length c, .int .i64 b, .int .i64 t] 31)).alloc (.cells #[.int .i64 0, .int .i64 0, .int .i64 0, .slice none 0 0, .int .i64 0, .int .i64 0] 31)).drew ∧ ((w.alloc (.cells #[.int .i64 o, .int .i64 l, .int .i64 m, .slice A ps.length c, .int .i64 b, .int .i64 t] 31)).alloc (.cells #[.int .i64 0, .int .i64 0, .int .i64 0, .slice none 0 0, .int .i64 0, .int .i64 0] 31)).drew.cell? ⟨w.heap.size, 0, none⟩ = some (.int .i64 o) ∧ ((w.alloc (.cells #[.int .i64 o, .int .i64 l, .int .i64 m, .slice A ps.length c, .int .i64 b, .int .i64 t] 31)).alloc (.cells #[.int .i64 0, .int .i64 0, .int .i64 0, .slice none 0 0, .int .i64 0, .int .i64 0] 31)).drew.cell? ⟨w.heap.size, 1, none⟩ = some (.int .i64 l) ∧ ((w.alloc (.cells #[.int .i64 o, .int .i64 l, .int .i64 m, .slice A ps.length c, .int .i64 b, .int .i64 t] 31)).alloc (.cells #[.int .i64 0, .int .i64 0, .int .i64 0, .slice none 0 0, .int .i64 0, .int .i64 0] 31)).drew.cell? ⟨w.heap.size, 2, none⟩ = some (.int .i64 m) ∧ ((w.alloc (.cells #[.int .i64 o, .int .i64 l, .int .i64 m, .slice A ps.length c, .int .i64 b, .int .i64 t] 31)).alloc (.cells #[.int .i64 0, .int .i64 0, .int .i64 0, .slice none 0 0, .int .i64 0, .int .i64 0] 31)).drew.cell? ⟨w.heap.size, 3, none⟩ = some (.slice A ps.length c) ∧ ((w.alloc (.cells #[.int .i64 o, .int .i64 l, .int .i64 m, .slice A ps.length c, .int .i64 b, .int .i64 t] 31)).alloc (.cells #[.int .i64 0, .int .i64 0, .int .i64 0, .slice none 0 0, .int .i64 0, .int .i64 0] 31)).drew.cell? ⟨w.heap.size, 4, none⟩ = some (.int .i64 b) ∧ ((w.alloc (.cells #[.int .i64 o, .int .i64 l, .int .i64 m, .slice A ps.length c, .int .i64 b, .int .i64 t] 31)).alloc (.cells #[.int .i64 0, .int .i64 0, .int .i64 0, .slice none 0 0, .int .i64 0, .int .i64 0] 31)).drew.cell? ⟨w.heap.size, 5, none⟩ = some (.int .i64 t) := ⟨B0.drew, K0.cell 0, K0.cell 1, K0.cell 2, K0.cell 3, K0.cell 4, K0.cell 5⟩
  clear K0 B0
  go_enter Try.func100, Try.ntmps100
  go_wp2_with fail
  refine wp_region_held_drew (S := (fun W => Below w.heap.size w W ∧ W.cell? ⟨w.heap.size, 0, none⟩ = some (.int .i64 o) ∧ W.cell? ⟨w.heap.size, 1, none⟩ = some (.int .i64 l) ∧ W.cell? ⟨w.heap.size, 2, none⟩ = some (.int .i64 m) ∧ W.cell? ⟨w.heap.size, 3, none⟩ = some (.slice A ps.length c) ∧ W.cell? ⟨w.heap.size, 4, none⟩ = some (.int .i64 b) ∧ W.cell? ⟨w.heap.size, 5, none⟩ = some (.int .i64 t))) (by kernel_rfl) (by first | assumption | exact s0) (fun hHeld => ?_)
  refine wpAnyH_take (i := 0) (oi := { dst := some 3, op := Op.fieldAddr 31 (Operand.tmp 1) 0, type := 0, pos := "l2_words.go:147", after := #[], guard := none }) (v := ?_) rfl (by kernel_rfl) (by kernel_rfl) (by kernel_rfl) (fun _ _ _ h => h) (Or.inl ⟨by rfl, ?_⟩) (by assumption) ?_; rotate_left
  · intro W hW; (try dsimp only at hW); go_simp;  try (with_reducible rfl)
  try simp only [Act.put, List.setIfInBounds_toArray, List.set_cons_zero, List.set_cons_succ]
  refine wpAnyH_take (i := 1) (oi := { dst := some 4, op := Op.load 28 (Operand.tmp 3), type := 28, pos := "l2_words.go:147", after := #[{ on := 0, ground := Ground.data }], guard := none }) (v := ?_) rfl (by kernel_rfl) (by kernel_rfl) (by kernel_rfl) (fun _ _ _ h => h) (Or.inl ⟨by rfl, ?_⟩) (by assumption) ?_; rotate_left
  · intro W hW; (try dsimp only at hW); go_simp;  try (with_reducible rfl)
  try simp only [Act.put, List.setIfInBounds_toArray, List.set_cons_zero, List.set_cons_succ]
  refine wpAnyH_take (i := 3) (oi := { dst := some 6, op := Op.fieldAddr 31 (Operand.tmp 1) 1, type := 0, pos := "l2_words.go:147", after := #[], guard := none }) (v := ?_) rfl (by kernel_rfl) (by kernel_rfl) (by kernel_rfl) (fun _ _ _ h => h) (Or.inl ⟨by rfl, ?_⟩) (by assumption) ?_; rotate_left
  · intro W hW; (try dsimp only at hW); go_simp;  try (with_reducible rfl)
  try simp only [Act.put, List.setIfInBounds_toArray, List.set_cons_zero, List.set_cons_succ]
  refine wpAnyH_take (i := 4) (oi := { dst := some 7, op := Op.load 29 (Operand.tmp 6), type := 29, pos := "l2_words.go:147", after := #[{ on := 3, ground := Ground.data }], guard := none }) (v := ?_) rfl (by kernel_rfl) (by kernel_rfl) (by kernel_rfl) (fun _ _ _ h => h) (Or.inl ⟨by rfl, ?_⟩) (by assumption) ?_; rotate_left
  · intro W hW; (try dsimp only at hW); go_simp;  try (with_reducible rfl)
  try simp only [Act.put, List.setIfInBounds_toArray, List.set_cons_zero, List.set_cons_succ]
  refine wpAnyH_take (i := 5) (oi := { dst := some 8, op := Op.fieldAddr 31 (Operand.tmp 1) 2, type := 0, pos := "l2_words.go:147", after := #[], guard := none }) (v := ?_) rfl (by kernel_rfl) (by kernel_rfl) (by kernel_rfl) (fun _ _ _ h => h) (Or.inl ⟨by rfl, ?_⟩) (by assumption) ?_; rotate_left
  · intro W hW; (try dsimp only at hW); go_simp;  try (with_reducible rfl)
  try simp only [Act.put, List.setIfInBounds_toArray, List.set_cons_zero, List.set_cons_succ]
  refine wpAnyH_take (i := 6) (oi := { dst := some 9, op := Op.load 3 (Operand.tmp 8), type := 3, pos := "l2_words.go:147", after := #[{ on := 5, ground := Ground.data }], guard := none }) (v := ?_) rfl (by kernel_rfl) (by kernel_rfl) (by kernel_rfl) (fun _ _ _ h => h) (Or.inl ⟨by rfl, ?_⟩) (by assumption) ?_; rotate_left
  · intro W hW; (try dsimp only at hW); go_simp;  try (with_reducible rfl)
  try simp only [Act.put, List.setIfInBounds_toArray, List.set_cons_zero, List.set_cons_succ]
  refine wpAnyH_take (i := 7) (oi := { dst := some 10, op := Op.slice 29 (Operand.tmp 7) none (some (Operand.tmp 9)) none, type := 29, pos := "l2_words.go:147", after := #[{ on := 4, ground := Ground.data }, { on := 6, ground := Ground.data }], guard := none }) (v := ?_) rfl (by kernel_rfl) (by kernel_rfl) (by kernel_rfl) (fun _ _ _ h => h) (Or.inl ⟨by rfl, ?_⟩) (by assumption) ?_; rotate_left
  · intro W hW; (try dsimp only at hW); go_simp;  try (with_reducible rfl)
  try simp only [Act.put, List.setIfInBounds_toArray, List.set_cons_zero, List.set_cons_succ]
  refine wpAnyH_take (i := 9) (oi := { dst := some 12, op := Op.fieldAddr 31 (Operand.tmp 1) 2, type := 0, pos := "l2_words.go:147", after := #[], guard := none }) (v := ?_) rfl (by kernel_rfl) (by kernel_rfl) (by kernel_rfl) (fun _ _ _ h => h) (Or.inl ⟨by rfl, ?_⟩) (by assumption) ?_; rotate_left
  · intro W hW; (try dsimp only at hW); go_simp;  try (with_reducible rfl)
  try simp only [Act.put, List.setIfInBounds_toArray, List.set_cons_zero, List.set_cons_succ]
  refine wpAnyH_take (i := 10) (oi := { dst := some 13, op := Op.load 3 (Operand.tmp 12), type := 3, pos := "l2_words.go:147", after := #[{ on := 9, ground := Ground.data }], guard := none }) (v := ?_) rfl (by kernel_rfl) (by kernel_rfl) (by kernel_rfl) (fun _ _ _ h => h) (Or.inl ⟨by rfl, ?_⟩) (by assumption) ?_; rotate_left
  · intro W hW; (try dsimp only at hW); go_simp;  try (with_reducible rfl)
  try simp only [Act.put, List.setIfInBounds_toArray, List.set_cons_zero, List.set_cons_succ]
  refine wpAnyH_ready (rs := [2]) (by kernel_rfl) (by simp) (AllReadyH.cons (i := 2) (o := { dst := some 5, op := Op.buildSlice 29 0 #[], type := 29, pos := "l2_words.go:147", after := #[], guard := none }) rfl (fun K hK => ?_) AllReadyH.nil)
  go_simp
  have R5 := R0.drew.alloc (.cells #[] 63)
  have O5 := own_emptyP ((w.alloc (.cells #[.int .i64 o, .int .i64 l, .int .i64 m, .slice A ps.length c, .int .i64 b, .int .i64 t] 31)).alloc (.cells #[.int .i64 0, .int .i64 0, .int .i64 0, .slice none 0 0, .int .i64 0, .int .i64 0] 31)).drew 63 2 (w.heap.size + 2) (by simp)
  have P5 := P0.alloc (by simp) (.cells #[] 63)
  have Z5 : (((w.alloc (.cells #[.int .i64 o, .int .i64 l, .int .i64 m, .slice A ps.length c, .int .i64 b, .int .i64 t] 31)).alloc (.cells #[.int .i64 0, .int .i64 0, .int .i64 0, .slice none 0 0, .int .i64 0, .int .i64 0] 31)).drew.alloc (.cells #[] 63)).drew.heap.size = w.heap.size + 3 := by simp
  refine hK.out _ _ (by (try dsimp only); first | exact keep6 ((Below.refl _ _).alloc (Nat.le_refl _) _) (by assumption)) (fun hHeld => ?_)
  clear hK K
  try simp only [Act.put, List.setIfInBounds_toArray, List.set_cons_zero, List.set_cons_succ]
  refine wpAnyH_ready (rs := [8]) (by kernel_rfl) (by simp) (AllReadyH.cons (i := 8) (o := { dst := some 11, op := Op.call { callee := Callee.builtin Builtin.append, args := #[Operand.tmp 5, Operand.tmp 10], argTypes := #[29, 29] }, type := 29, pos := "l2_words.go:147", after := #[{ on := 2, ground := Ground.data }, { on := 7, ground := Ground.data }], guard := none }) rfl (fun K hK => ?_) AllReadyH.nil)
  refine wp_append_any _ _ _ _ rfl (w.heap.size + 2) 63 i0 (.agg #[.int .i64 0, .int .i64 0]) 2 16 Try.underlying29 hi0 hz0 hz1 hz2 (by rfl) (by decide) (.slice (some ⟨w.heap.size + 2, 0, none⟩) 0 0) 0 [] (by first | rfl | simp [Act.eval, Act.put]) O5 _ A b.toNat c (pvals (ps.take b.toNat)) (by first | rfl | simp [Act.eval, hkl]) P5 (pvals_one _) (by simp only [maxLen]; omega) (by omega) (by first | omega | (simp; done) | (simp; omega)) ?_
  intro v' w9 hown hgrow hsh
  rw [Nat.zero_add, List.nil_append] at hown
  obtain ⟨A', c', rfl⟩ := own_shapeN hown
  have hl9 := hown.lt
  have hcp := own_cap hown
  have R9 := R5.grown hgrow (by simp [Value.ownBlock])
  have HK := keepG6' hHeld hgrow (by simp [Value.ownBlock]) (by simp [Value.ownBlock])
  clear R5 O5 P5 Z5 hgrow hsh hHeld
  have c0 : w9.cell? ⟨(w.heap.size + 1), 0, none⟩ = some (.int .i64 0) := R9.cell 0
  have c1 : w9.cell? ⟨(w.heap.size + 1), 1, none⟩ = some (.int .i64 0) := R9.cell 1
  have c2 : w9.cell? ⟨(w.heap.size + 1), 2, none⟩ = some (.int .i64 0) := R9.cell 2
  have c3 : w9.cell? ⟨(w.heap.size + 1), 3, none⟩ = some (.slice none 0 0) := R9.cell 3
  have c4 : w9.cell? ⟨(w.heap.size + 1), 4, none⟩ = some (.int .i64 0) := R9.cell 4
  have c5 : w9.cell? ⟨(w.heap.size + 1), 5, none⟩ = some (.int .i64 0) := R9.cell 5
  have fc0 := R9.frozen 0
  have fc1 := R9.frozen 1
  have fc2 := R9.frozen 2
  have fc3 := R9.frozen 3
  have fc4 := R9.frozen 4
  have fc5 := R9.frozen 5
  have q := blk6_set R9 (.int .i64 o) (.int .i64 l) (.int .i64 m) (.slice A' b.toNat c') (.int .i64 b) (.int .i64 (-1))
  have OW := hown.kept (only6 w9 (w.heap.size + 1) (.int .i64 o) (.int .i64 l) (.int .i64 m) (.slice A' b.toNat c') (.int .i64 b) (.int .i64 (-1))) (.inr fun h => by have := (hl9 _ h).1; omega)
  have OW := OwnP.of_own hkl (own_base OW (by omega : w.heap.size ≤ w.heap.size + 2))
  clear R9 hown hl9
  refine hK.out _ _ (by (try dsimp only); first | exact HK) (fun hHeld => ?_)
  clear hK K
  try simp only [Act.put, List.setIfInBounds_toArray, List.set_cons_zero, List.set_cons_succ]
  refine wpAnyH_take (i := 11) (oi := { dst := some 14, op := Op.build 31 #[(0, Operand.tmp 4), (1, Operand.tmp 11), (2, Operand.tmp 13), (3, Operand.const (Value.int IntKind.i64 (-1)))], type := 31, pos := "l2_words.go:147", after := #[{ on := 1, ground := Ground.data }, { on := 8, ground := Ground.data }, { on := 10, ground := Ground.data }], guard := none }) (v := ?_) rfl (by kernel_rfl) (by kernel_rfl) (by kernel_rfl) (fun _ _ _ h => h) (Or.inl ⟨by rfl, ?_⟩) (by assumption) ?_; rotate_left
  · intro W hW; (try dsimp only at hW); go_simp;  try (with_reducible rfl)
  try simp only [Act.put, List.setIfInBounds_toArray, List.set_cons_zero, List.set_cons_succ]
  refine wpAnyH_ready (rs := [12]) (by kernel_rfl) (by simp) (AllReadyH.cons (i := 12) (o := { dst := none, op := Op.store 31 (Operand.tmp 2) (Operand.tmp 14), type := 0, pos := "l2_words.go:147", after := #[{ on := 11, ground := Ground.data }, { on := 8, ground := Ground.chain }, { on := 0, ground := Ground.phase }, { on := 1, ground := Ground.phase }, { on := 2, ground := Ground.phase }, { on := 3, ground := Ground.phase }, { on := 4, ground := Ground.phase }, { on := 5, ground := Ground.phase }, { on := 6, ground := Ground.phase }, { on := 7, ground := Ground.phase }, { on := 8, ground := Ground.phase }, { on := 9, ground := Ground.phase }, { on := 10, ground := Ground.phase }, { on := 11, ground := Ground.phase }], guard := none }) rfl (fun K hK => ?_) AllReadyH.nil)
  go_simp
  refine hK.out _ _ (by (try dsimp only); first | exact keepSet6 (keepSet6 (keepSet6 (keepSet6 (keepSet6 (keepSet6 HK (by omega) (Nat.le_refl _)) (by omega) (Nat.le_refl _)) (by omega) (Nat.le_refl _)) (by omega) (Nat.le_refl _)) (by omega) (Nat.le_refl _)) (by omega) (Nat.le_refl _)) (fun hHeld => ?_)
  clear hK K
  try simp only [Act.put, List.setIfInBounds_toArray, List.set_cons_zero, List.set_cons_succ]
  refine wpAnyH_done (by kernel_rfl) ?_ _
  go_wp2_with fail
  have q0 := q.cell 0
  have q1 := q.cell 1
  have q2 := q.cell 2
  have q3 := q.cell 3
  have q4 := q.cell 4
  have q5 := q.cell 5
  exact bodyPost_ret (v := kv o l m A' b.toNat c' b (-1)) (by simp [results, Try.results100, go_sem, q0, q1, q2, q3, q4, q5]) rfl ⟨A', c', by rw [hkl], OW, by rw [hkl]; exact hcp, hHeld.1⟩

end Go.Proofs.Ytegfcpdkehgdpaa

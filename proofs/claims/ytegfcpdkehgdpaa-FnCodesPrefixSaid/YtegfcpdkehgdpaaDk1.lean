/- The walk of a drawn code that can follow. Conditions: a reader at fewer than 9000000 picks, a setting that is valid, few pairs. -/
import Derived.Test.YtegfcpdkehgdpaaDs
import Derived.Test.YtegfcpdkehgdpaaPk2
import Derived.Test.YtegfcpdkehgdpaaW3
namespace Go.Proofs.Ytegfcpdkehgdpaa
open Go.RowKit

theorem grown_more {w a b : World} {row : Option Nat} (h : w.grownBy a row) (hb : Below a.heap.size a b) : w.grownBy b row :=
  ⟨hb.os.trans h.os, hb.tape.trans h.tape, hb.output.trans h.output, Nat.le_trans h.size hb.size, fun k hk hne => (hb.block k (Nat.lt_of_lt_of_le hk h.size)).trans (h.block k hk hne)⟩
theorem keepG3 {W W' : World} {b g : Nat} {v0 v1 v2 : Value} (h : W.cell? ⟨b, 0, none⟩ = some v0 ∧ W.cell? ⟨b, 1, none⟩ = some v1 ∧ W.cell? ⟨b, 2, none⟩ = some v2) (hg : W.grownBy W' (some g)) (hne : b ≠ g) : W'.cell? ⟨b, 0, none⟩ = some v0 ∧ W'.cell? ⟨b, 1, none⟩ = some v1 ∧ W'.cell? ⟨b, 2, none⟩ = some v2 :=
  ⟨hg.cell h.1 (by simpa using hne), hg.cell h.2.1 (by simpa using hne), hg.cell h.2.2 (by simpa using hne)⟩
theorem keepB3 {W W' : World} {b : Nat} {v0 v1 v2 : Value} (h : W.cell? ⟨b, 0, none⟩ = some v0 ∧ W.cell? ⟨b, 1, none⟩ = some v1 ∧ W.cell? ⟨b, 2, none⟩ = some v2) (hb : Below W.heap.size W W') : W'.cell? ⟨b, 0, none⟩ = some v0 ∧ W'.cell? ⟨b, 1, none⟩ = some v1 ∧ W'.cell? ⟨b, 2, none⟩ = some v2 :=
  ⟨cell_keep hb h.1, cell_keep hb h.2.1, cell_keep hb h.2.2⟩
theorem Rd.drew {w : World} {B g p : Nat} (h : Rd w B g p) : Rd w.drew B g p := h
/-- A drawn code that can follow. -/
def PickK (l m : Int) (n : Nat) (t : Int) (B g p : Nat) (w : World) (e : Ending) (w' : World) : Prop :=
  ∃ x : Int, e = .returned (.int .i64 x) ∧ Sx.canB l m n t x = true ∧ RdPost B g p 4 w w'
theorem pick_mk {l m t : Int} {n : Nat} {B g p p' : Nat} {w w' : World} {x : Int} (hx : Sx.canB l m n t x = true) (hr : Rd w' B g p') (hg : w.grownBy w' (some g)) (hp : p' ≤ p + 4) : PickK l m n t B g p w (.returned (.int .i64 x)) w' := ⟨x, rfl, hx, ⟨p', hp, hr⟩, hg⟩
theorem Sx.can_lit {l m t x : Int} {n : Nat} (h0 : 0 ≤ x) (h1 : x < Sx.two l) : Sx.canB l m n t x = true := by simp [Sx.canB, Sx.codeB_lit (n := n) ⟨h0, h1⟩]
theorem Sx.can_pair {l m t x : Int} {n : Nat} (h0 : Sx.two l + 2 ≤ x) (h1 : x ≤ Sx.two l + 1 + (n : Int)) : Sx.canB l m n t x = true := by simp [Sx.canB, Sx.codeB, h0, h1]
theorem Sx.can_next {l m t : Int} {n : Nat} (h : Sx.growsB l m n t = true) : Sx.canB l m n t (Sx.two l + 2 + (n : Int)) = true := by simp [Sx.canB, h]

set_option maxRecDepth 100000 in
set_option maxHeartbeats 8000000 in
theorem rd_l2Pick (B g p : Nat) (o l m : Int) (A : Option Addr) (n c : Nat) (b t : Int) (w : World) (h : Rd w B g p) (hp : p ≤ 9000000) (hl0 : 1 ≤ l) (hl1 : l ≤ 8) (hm0 : 0 ≤ m) (hm1 : m ≤ 10) (hn : n ≤ 1024) :
    Calls Try.prog 84 #[.pointer (some ⟨g, 0, none⟩), kv o l m A n c b t] w (PickK l m n t B g p w) := by
  have hlt := h.lt
  have hne : w.heap.size ≠ g := by omega
  have t1 := Sx.two_pos l
  have t2 := Sx.two_byte hl1
  have tz : Sx.two l ≠ 0 := by omega
  have B0 : Below w.heap.size w (w.alloc (.cells #[.int .i64 o, .int .i64 l, .int .i64 m, .slice A n c, .int .i64 b, .int .i64 t] 31)) := (Below.refl _ _).alloc (Nat.le_refl _) _
  have H0 := h.below B0
  have G0 := below_grownBy B0 (some g)
  have K0 := Blk.new w 31 #[.int .i64 o, .int .i64 l, .int .i64 m, .slice A n c, .int .i64 b, .int .i64 t]
  have CG := fun wx => spec_l2Grows o l m A n c b t wx (by omega) hl1 hm0 hm1 (by omega)
  have CN := hide (fun wx => spec_l2Next o l m A n c b t wx (by omega) hl1 (by omega))
  have CC := hide (fun wx => spec_l1Clear o l m wx (by omega) (by omega))
  have CE := hide (fun wx => spec_l1End o l m wx (by omega) (by omega))
  clear h B0
  have a0 : (w.alloc (.cells #[.int .i64 o, .int .i64 l, .int .i64 m, .slice A n c, .int .i64 b, .int .i64 t] 31)).cell? ⟨w.heap.size, 0, none⟩ = some (.int .i64 o) := K0.cell 0
  have a1 : (w.alloc (.cells #[.int .i64 o, .int .i64 l, .int .i64 m, .slice A n c, .int .i64 b, .int .i64 t] 31)).cell? ⟨w.heap.size, 1, none⟩ = some (.int .i64 l) := K0.cell 1
  have a2 : (w.alloc (.cells #[.int .i64 o, .int .i64 l, .int .i64 m, .slice A n c, .int .i64 b, .int .i64 t] 31)).cell? ⟨w.heap.size, 2, none⟩ = some (.int .i64 m) := K0.cell 2
  have a3 : (w.alloc (.cells #[.int .i64 o, .int .i64 l, .int .i64 m, .slice A n c, .int .i64 b, .int .i64 t] 31)).cell? ⟨w.heap.size, 3, none⟩ = some (.slice A n c) := K0.cell 3
  have a4 : (w.alloc (.cells #[.int .i64 o, .int .i64 l, .int .i64 m, .slice A n c, .int .i64 b, .int .i64 t] 31)).cell? ⟨w.heap.size, 4, none⟩ = some (.int .i64 b) := K0.cell 4
  have a5 : (w.alloc (.cells #[.int .i64 o, .int .i64 l, .int .i64 m, .slice A n c, .int .i64 b, .int .i64 t] 31)).cell? ⟨w.heap.size, 5, none⟩ = some (.int .i64 t) := K0.cell 5
  go_enter Try.func84, Try.ntmps84
  go_wp2_with fail
  refine (rd_pick B g p 6 _ H0 (by omega) (by omega) (by omega)).mono ?_; rintro e w1 ⟨v, rfl, v0, v1, _, H1, hg1⟩
  have v1 := v1 (by omega)
  have K1 := blkG K0 hg1 hne
  have G1 := grown_trans' G0 hg1
  clear H0 G0 K0 hg1 a0 a1 a2 a3 a4 a5
  have a0 : w1.cell? ⟨w.heap.size, 0, none⟩ = some (.int .i64 o) := K1.cell 0
  have a1 : w1.cell? ⟨w.heap.size, 1, none⟩ = some (.int .i64 l) := K1.cell 1
  have a2 : w1.cell? ⟨w.heap.size, 2, none⟩ = some (.int .i64 m) := K1.cell 2
  have a3 : w1.cell? ⟨w.heap.size, 3, none⟩ = some (.slice A n c) := K1.cell 3
  have a4 : w1.cell? ⟨w.heap.size, 4, none⟩ = some (.int .i64 b) := K1.cell 4
  have a5 : w1.cell? ⟨w.heap.size, 5, none⟩ = some (.int .i64 t) := K1.cell 5
  obtain rfl | rfl | rfl | rfl | rfl | rfl : v = 0 ∨ v = 1 ∨ v = 2 ∨ v = 3 ∨ v = 4 ∨ v = 5 := by omega
  · skip
    rcases hgr : Sx.growsB l m n t with _ | _
    · rw [hgr] at CG
      have CG := hide CG
      go_wp2_with fail
      refine ((unhide CG) _).mono ?_; rintro e w2 ⟨rfl, hb⟩
      have K2 := K1.below hb K1.lt
      have H2 := H1.below hb
      have G2 := grown_more G1 hb
      clear a0 a1 a2 a3 a4 a5 K1 H1 G1 hb
      go_wp2_with fail
      have s11 : w2.drew.cell? ⟨w.heap.size, 0, none⟩ = some (.int .i64 o) ∧ w2.drew.cell? ⟨w.heap.size, 1, none⟩ = some (.int .i64 l) ∧ w2.drew.cell? ⟨w.heap.size, 2, none⟩ = some (.int .i64 m) := ⟨K2.cell 0, K2.cell 1, K2.cell 2⟩
      refine wp_region_held_drew (S := (fun W => W.cell? ⟨w.heap.size, 0, none⟩ = some (.int .i64 o) ∧ W.cell? ⟨w.heap.size, 1, none⟩ = some (.int .i64 l) ∧ W.cell? ⟨w.heap.size, 2, none⟩ = some (.int .i64 m))) (by kernel_rfl) (by first | assumption | exact s11) (fun hHeld => ?_)
      refine wpAnyH_take (i := 0) (oi := { dst := some 36, op := Op.move (Operand.tmp 0), type := 82, pos := "l2_words.go:360", after := #[], guard := none }) (v := ?_) rfl (by kernel_rfl) (by kernel_rfl) (by kernel_rfl) (fun _ _ _ h => h) (Or.inl ⟨by rfl, ?_⟩) (by assumption) ?_; rotate_left
      · intro W hW; (try dsimp only at hW); go_simp;  try (with_reducible rfl)
      try simp only [Act.put, List.setIfInBounds_toArray, List.set_cons_zero, List.set_cons_succ]
      refine wpAnyH_take (i := 2) (oi := { dst := some 38, op := Op.fieldAddr 31 (Operand.tmp 3) 0, type := 0, pos := "l2_words.go:360", after := #[], guard := none }) (v := ?_) rfl (by kernel_rfl) (by kernel_rfl) (by kernel_rfl) (fun _ _ _ h => h) (Or.inl ⟨by rfl, ?_⟩) (by assumption) ?_; rotate_left
      · intro W hW; (try dsimp only at hW); go_simp;  try (with_reducible rfl)
      try simp only [Act.put, List.setIfInBounds_toArray, List.set_cons_zero, List.set_cons_succ]
      refine wpAnyH_take (i := 3) (oi := { dst := some 39, op := Op.load 28 (Operand.tmp 38), type := 28, pos := "l2_words.go:360", after := #[{ on := 2, ground := Ground.data }], guard := none }) (v := ?_) rfl (by kernel_rfl) (by kernel_rfl) (by kernel_rfl) (fun _ _ _ h => h) (Or.inl ⟨by rfl, ?_⟩) (by assumption) ?_; rotate_left
      · intro W hW; (try dsimp only at hW); go_simp;  try (with_reducible rfl)
      try simp only [Act.put, List.setIfInBounds_toArray, List.set_cons_zero, List.set_cons_succ]
      refine wpAnyH_ready (rs := [1]) (by kernel_rfl) (by simp) (AllReadyH.cons (i := 1) (o := { dst := some 37, op := Op.call { callee := Callee.value (Operand.func 85), args := #[Operand.tmp 36, Operand.const (Value.int IntKind.i64 256)], argTypes := #[82, 3] }, type := 3, pos := "l2_words.go:360", after := #[{ on := 0, ground := Ground.data }], guard := none }) rfl (fun K hK => ?_) AllReadyH.nil)
      go_simp
      refine (rd_pick B g (p + 1) 256 _ (Rd.drew H2) (by omega) (by omega) (by omega)).mono ?_; rintro e y1 ⟨x, rfl, x0, x1, _, hrx, hgx⟩
      have GX := grown_trans' (only_drew G2) hgx
      have x1' := x1 (by omega)
      have e9 : x.tmod (Sx.two l) = x % Sx.two l := Int.tmod_eq_emod_of_nonneg x0
      have z0 : 0 ≤ x % Sx.two l := Int.emod_nonneg _ (by omega)
      have z1 : x % Sx.two l < Sx.two l := Int.emod_lt_of_pos _ (by omega)
      have z2 : IntKind.i64.wrap (x % Sx.two l) = x % Sx.two l := IntWalk.i64_in _ (by omega)
      try go_wp2_with fail
      refine hK.out _ _ (by (try dsimp only); first | exact keepG3 (by assumption) hgx hne) (fun hHeld => ?_)
      clear hK K
      try simp only [Act.put, List.setIfInBounds_toArray, List.set_cons_zero, List.set_cons_succ]
      refine wpAnyH_ready (rs := [4]) (by kernel_rfl) (by simp) (AllReadyH.cons (i := 4) (o := { dst := some 40, op := Op.call { callee := Callee.value (Operand.func 57), args := #[Operand.tmp 39], argTypes := #[28] }, type := 3, pos := "l2_words.go:360", after := #[{ on := 3, ground := Ground.data }, { on := 1, ground := Ground.chain }], guard := none }) rfl (fun K hK => ?_) AllReadyH.nil)
      go_simp
      refine ((unhide CC) _).mono ?_; rintro e y2 ⟨rfl, hbx⟩
      have HRX := hrx.below hbx
      have GY := grown_more GX hbx
      try go_wp2_with fail
      refine hK.out _ _ (by (try dsimp only); first | exact keepB3 (by assumption) hbx) (fun hHeld => ?_)
      clear hK K
      try simp only [Act.put, List.setIfInBounds_toArray, List.set_cons_zero, List.set_cons_succ]
      refine wpAnyH_take (i := 5) (oi := { dst := some 41, op := Op.binOp BinOp.rem 3 (Operand.tmp 37) (Operand.tmp 40) 3, type := 3, pos := "l2_words.go:360", after := #[{ on := 1, ground := Ground.data }, { on := 4, ground := Ground.data }], guard := none }) (v := ?_) rfl (by kernel_rfl) (by kernel_rfl) (by kernel_rfl) (fun _ _ _ h => h) (Or.inl ⟨by rfl, ?_⟩) (by assumption) ?_; rotate_left
      · intro W hW; (try dsimp only at hW); go_simp;  try (with_reducible rfl)
      try simp only [Act.put, List.setIfInBounds_toArray, List.set_cons_zero, List.set_cons_succ]
      refine wpAnyH_take (i := 6) (oi := { dst := some 4, op := Op.assign (Operand.tmp 41), type := 3, pos := "l2_words.go:360", after := #[{ on := 5, ground := Ground.data }, { on := 4, ground := Ground.chain }, { on := 0, ground := Ground.phase }, { on := 1, ground := Ground.phase }, { on := 2, ground := Ground.phase }, { on := 3, ground := Ground.phase }, { on := 4, ground := Ground.phase }, { on := 5, ground := Ground.phase }], guard := none }) (v := ?_) rfl (by kernel_rfl) (by kernel_rfl) (by kernel_rfl) (fun _ _ _ h => h) (Or.inl ⟨by rfl, ?_⟩) (by assumption) ?_; rotate_left
      · intro W hW; (try dsimp only at hW); go_simp;  try (with_reducible rfl)
      try simp only [Act.put, List.setIfInBounds_toArray, List.set_cons_zero, List.set_cons_succ]
      refine wpAnyH_done (by kernel_rfl) ?_ _
      go_wp2_with fail
      go_ret
      exact pick_mk (Sx.can_lit z0 z1) HRX GY (by omega)
    · rw [hgr] at CG
      have CG := hide CG
      go_wp2_with fail
      refine ((unhide CG) _).mono ?_; rintro e w2 ⟨rfl, hb⟩
      have K2 := K1.below hb K1.lt
      have H2 := H1.below hb
      have G2 := grown_more G1 hb
      clear a0 a1 a2 a3 a4 a5 K1 H1 G1 hb
      have a0 : w2.cell? ⟨w.heap.size, 0, none⟩ = some (.int .i64 o) := K2.cell 0
      have a1 : w2.cell? ⟨w.heap.size, 1, none⟩ = some (.int .i64 l) := K2.cell 1
      have a2 : w2.cell? ⟨w.heap.size, 2, none⟩ = some (.int .i64 m) := K2.cell 2
      have a3 : w2.cell? ⟨w.heap.size, 3, none⟩ = some (.slice A n c) := K2.cell 3
      have a4 : w2.cell? ⟨w.heap.size, 4, none⟩ = some (.int .i64 b) := K2.cell 4
      have a5 : w2.cell? ⟨w.heap.size, 5, none⟩ = some (.int .i64 t) := K2.cell 5
      go_wp2_with fail
      refine ((unhide CN) _).mono ?_; rintro e w3 ⟨rfl, hb⟩
      have H3 := H2.below hb
      have G3 := grown_more G2 hb
      clear a0 a1 a2 a3 a4 a5 K2 H2 G2 hb
      go_wp2_with fail
      go_ret
      exact pick_mk (Sx.can_next hgr) H3 G3 (by omega)
  · skip
    by_cases hz : n = 0
    · subst hz
      go_wp2_with fail
      have s11 : w1.drew.cell? ⟨w.heap.size, 0, none⟩ = some (.int .i64 o) ∧ w1.drew.cell? ⟨w.heap.size, 1, none⟩ = some (.int .i64 l) ∧ w1.drew.cell? ⟨w.heap.size, 2, none⟩ = some (.int .i64 m) := ⟨K1.cell 0, K1.cell 1, K1.cell 2⟩
      refine wp_region_held_drew (S := (fun W => W.cell? ⟨w.heap.size, 0, none⟩ = some (.int .i64 o) ∧ W.cell? ⟨w.heap.size, 1, none⟩ = some (.int .i64 l) ∧ W.cell? ⟨w.heap.size, 2, none⟩ = some (.int .i64 m))) (by kernel_rfl) (by first | assumption | exact s11) (fun hHeld => ?_)
      refine wpAnyH_take (i := 0) (oi := { dst := some 36, op := Op.move (Operand.tmp 0), type := 82, pos := "l2_words.go:360", after := #[], guard := none }) (v := ?_) rfl (by kernel_rfl) (by kernel_rfl) (by kernel_rfl) (fun _ _ _ h => h) (Or.inl ⟨by rfl, ?_⟩) (by assumption) ?_; rotate_left
      · intro W hW; (try dsimp only at hW); go_simp;  try (with_reducible rfl)
      try simp only [Act.put, List.setIfInBounds_toArray, List.set_cons_zero, List.set_cons_succ]
      refine wpAnyH_take (i := 2) (oi := { dst := some 38, op := Op.fieldAddr 31 (Operand.tmp 3) 0, type := 0, pos := "l2_words.go:360", after := #[], guard := none }) (v := ?_) rfl (by kernel_rfl) (by kernel_rfl) (by kernel_rfl) (fun _ _ _ h => h) (Or.inl ⟨by rfl, ?_⟩) (by assumption) ?_; rotate_left
      · intro W hW; (try dsimp only at hW); go_simp;  try (with_reducible rfl)
      try simp only [Act.put, List.setIfInBounds_toArray, List.set_cons_zero, List.set_cons_succ]
      refine wpAnyH_take (i := 3) (oi := { dst := some 39, op := Op.load 28 (Operand.tmp 38), type := 28, pos := "l2_words.go:360", after := #[{ on := 2, ground := Ground.data }], guard := none }) (v := ?_) rfl (by kernel_rfl) (by kernel_rfl) (by kernel_rfl) (fun _ _ _ h => h) (Or.inl ⟨by rfl, ?_⟩) (by assumption) ?_; rotate_left
      · intro W hW; (try dsimp only at hW); go_simp;  try (with_reducible rfl)
      try simp only [Act.put, List.setIfInBounds_toArray, List.set_cons_zero, List.set_cons_succ]
      refine wpAnyH_ready (rs := [1]) (by kernel_rfl) (by simp) (AllReadyH.cons (i := 1) (o := { dst := some 37, op := Op.call { callee := Callee.value (Operand.func 85), args := #[Operand.tmp 36, Operand.const (Value.int IntKind.i64 256)], argTypes := #[82, 3] }, type := 3, pos := "l2_words.go:360", after := #[{ on := 0, ground := Ground.data }], guard := none }) rfl (fun K hK => ?_) AllReadyH.nil)
      go_simp
      refine (rd_pick B g (p + 1) 256 _ (Rd.drew H1) (by omega) (by omega) (by omega)).mono ?_; rintro e y1 ⟨x, rfl, x0, x1, _, hrx, hgx⟩
      have GX := grown_trans' (only_drew G1) hgx
      have x1' := x1 (by omega)
      have e9 : x.tmod (Sx.two l) = x % Sx.two l := Int.tmod_eq_emod_of_nonneg x0
      have z0 : 0 ≤ x % Sx.two l := Int.emod_nonneg _ (by omega)
      have z1 : x % Sx.two l < Sx.two l := Int.emod_lt_of_pos _ (by omega)
      have z2 : IntKind.i64.wrap (x % Sx.two l) = x % Sx.two l := IntWalk.i64_in _ (by omega)
      try go_wp2_with fail
      refine hK.out _ _ (by (try dsimp only); first | exact keepG3 (by assumption) hgx hne) (fun hHeld => ?_)
      clear hK K
      try simp only [Act.put, List.setIfInBounds_toArray, List.set_cons_zero, List.set_cons_succ]
      refine wpAnyH_ready (rs := [4]) (by kernel_rfl) (by simp) (AllReadyH.cons (i := 4) (o := { dst := some 40, op := Op.call { callee := Callee.value (Operand.func 57), args := #[Operand.tmp 39], argTypes := #[28] }, type := 3, pos := "l2_words.go:360", after := #[{ on := 3, ground := Ground.data }, { on := 1, ground := Ground.chain }], guard := none }) rfl (fun K hK => ?_) AllReadyH.nil)
      go_simp
      refine ((unhide CC) _).mono ?_; rintro e y2 ⟨rfl, hbx⟩
      have HRX := hrx.below hbx
      have GY := grown_more GX hbx
      try go_wp2_with fail
      refine hK.out _ _ (by (try dsimp only); first | exact keepB3 (by assumption) hbx) (fun hHeld => ?_)
      clear hK K
      try simp only [Act.put, List.setIfInBounds_toArray, List.set_cons_zero, List.set_cons_succ]
      refine wpAnyH_take (i := 5) (oi := { dst := some 41, op := Op.binOp BinOp.rem 3 (Operand.tmp 37) (Operand.tmp 40) 3, type := 3, pos := "l2_words.go:360", after := #[{ on := 1, ground := Ground.data }, { on := 4, ground := Ground.data }], guard := none }) (v := ?_) rfl (by kernel_rfl) (by kernel_rfl) (by kernel_rfl) (fun _ _ _ h => h) (Or.inl ⟨by rfl, ?_⟩) (by assumption) ?_; rotate_left
      · intro W hW; (try dsimp only at hW); go_simp;  try (with_reducible rfl)
      try simp only [Act.put, List.setIfInBounds_toArray, List.set_cons_zero, List.set_cons_succ]
      refine wpAnyH_take (i := 6) (oi := { dst := some 4, op := Op.assign (Operand.tmp 41), type := 3, pos := "l2_words.go:360", after := #[{ on := 5, ground := Ground.data }, { on := 4, ground := Ground.chain }, { on := 0, ground := Ground.phase }, { on := 1, ground := Ground.phase }, { on := 2, ground := Ground.phase }, { on := 3, ground := Ground.phase }, { on := 4, ground := Ground.phase }, { on := 5, ground := Ground.phase }], guard := none }) (v := ?_) rfl (by kernel_rfl) (by kernel_rfl) (by kernel_rfl) (fun _ _ _ h => h) (Or.inl ⟨by rfl, ?_⟩) (by assumption) ?_; rotate_left
      · intro W hW; (try dsimp only at hW); go_simp;  try (with_reducible rfl)
      try simp only [Act.put, List.setIfInBounds_toArray, List.set_cons_zero, List.set_cons_succ]
      refine wpAnyH_done (by kernel_rfl) ?_ _
      go_wp2_with fail
      go_ret
      exact pick_mk (Sx.can_lit z0 z1) HRX GY (by omega)
    · have hzI : (0 : Int) < (n : Int) := by omega
      go_wp2_with fail
      refine ((unhide CE) _).mono ?_; rintro e w2 ⟨rfl, hb⟩
      have K2 := K1.below hb K1.lt
      have H2 := H1.below hb
      have G2 := grown_more G1 hb
      have e1 : IntKind.i64.wrap (Sx.two l + 1 + 1) = Sx.two l + 1 + 1 := IntWalk.i64_in _ (by omega)
      clear a0 a1 a2 a3 a4 a5 K1 H1 G1 hb
      go_wp2_with fail
      refine (rd_pick B g (p + 1) 256 _ H2 (by omega) (by omega) (by omega)).mono ?_; rintro e w3 ⟨x, rfl, x0, x1, _, H3, hg3⟩
      have G3 := grown_trans' G2 hg3
      have x1 := x1 (by omega)
      have e2 : IntKind.i64.wrap (x * 256) = x * 256 := IntWalk.i64_in _ (by omega)
      clear H2 G2 hg3 K2
      go_wp2_with fail
      refine (rd_pick B g (p + 1 + 1) 256 _ H3 (by omega) (by omega) (by omega)).mono ?_; rintro e w4 ⟨y, rfl, y0, y1, _, H4, hg4⟩
      have G4 := grown_trans' G3 hg4
      have y1 := y1 (by omega)
      have e3 : IntKind.i64.wrap (x * 256 + y) = x * 256 + y := IntWalk.i64_in _ (by omega)
      have e9 : (x * 256 + y).tmod (n : Int) = (x * 256 + y) % (n : Int) := Int.tmod_eq_emod_of_nonneg (by omega)
      have z0 : 0 ≤ (x * 256 + y) % (n : Int) := Int.emod_nonneg _ (by omega)
      have z1 : (x * 256 + y) % (n : Int) < (n : Int) := Int.emod_lt_of_pos _ (by omega)
      have z2 : IntKind.i64.wrap ((x * 256 + y) % (n : Int)) = (x * 256 + y) % (n : Int) := IntWalk.i64_in _ (by omega)
      have e4 : IntKind.i64.wrap (Sx.two l + 1 + 1 + (x * 256 + y) % (n : Int)) = Sx.two l + 1 + 1 + (x * 256 + y) % (n : Int) := IntWalk.i64_in _ (by omega)
      clear H3 G3 hg4
      go_wp2_with fail
      go_ret
      exact pick_mk (Sx.can_pair (by omega) (by omega)) H4 G4 (by omega)
  · skip
    by_cases hz : n = 0
    · subst hz
      go_wp2_with fail
      have s11 : w1.drew.cell? ⟨w.heap.size, 0, none⟩ = some (.int .i64 o) ∧ w1.drew.cell? ⟨w.heap.size, 1, none⟩ = some (.int .i64 l) ∧ w1.drew.cell? ⟨w.heap.size, 2, none⟩ = some (.int .i64 m) := ⟨K1.cell 0, K1.cell 1, K1.cell 2⟩
      refine wp_region_held_drew (S := (fun W => W.cell? ⟨w.heap.size, 0, none⟩ = some (.int .i64 o) ∧ W.cell? ⟨w.heap.size, 1, none⟩ = some (.int .i64 l) ∧ W.cell? ⟨w.heap.size, 2, none⟩ = some (.int .i64 m))) (by kernel_rfl) (by first | assumption | exact s11) (fun hHeld => ?_)
      refine wpAnyH_take (i := 0) (oi := { dst := some 36, op := Op.move (Operand.tmp 0), type := 82, pos := "l2_words.go:360", after := #[], guard := none }) (v := ?_) rfl (by kernel_rfl) (by kernel_rfl) (by kernel_rfl) (fun _ _ _ h => h) (Or.inl ⟨by rfl, ?_⟩) (by assumption) ?_; rotate_left
      · intro W hW; (try dsimp only at hW); go_simp;  try (with_reducible rfl)
      try simp only [Act.put, List.setIfInBounds_toArray, List.set_cons_zero, List.set_cons_succ]
      refine wpAnyH_take (i := 2) (oi := { dst := some 38, op := Op.fieldAddr 31 (Operand.tmp 3) 0, type := 0, pos := "l2_words.go:360", after := #[], guard := none }) (v := ?_) rfl (by kernel_rfl) (by kernel_rfl) (by kernel_rfl) (fun _ _ _ h => h) (Or.inl ⟨by rfl, ?_⟩) (by assumption) ?_; rotate_left
      · intro W hW; (try dsimp only at hW); go_simp;  try (with_reducible rfl)
      try simp only [Act.put, List.setIfInBounds_toArray, List.set_cons_zero, List.set_cons_succ]
      refine wpAnyH_take (i := 3) (oi := { dst := some 39, op := Op.load 28 (Operand.tmp 38), type := 28, pos := "l2_words.go:360", after := #[{ on := 2, ground := Ground.data }], guard := none }) (v := ?_) rfl (by kernel_rfl) (by kernel_rfl) (by kernel_rfl) (fun _ _ _ h => h) (Or.inl ⟨by rfl, ?_⟩) (by assumption) ?_; rotate_left
      · intro W hW; (try dsimp only at hW); go_simp;  try (with_reducible rfl)
      try simp only [Act.put, List.setIfInBounds_toArray, List.set_cons_zero, List.set_cons_succ]
      refine wpAnyH_ready (rs := [1]) (by kernel_rfl) (by simp) (AllReadyH.cons (i := 1) (o := { dst := some 37, op := Op.call { callee := Callee.value (Operand.func 85), args := #[Operand.tmp 36, Operand.const (Value.int IntKind.i64 256)], argTypes := #[82, 3] }, type := 3, pos := "l2_words.go:360", after := #[{ on := 0, ground := Ground.data }], guard := none }) rfl (fun K hK => ?_) AllReadyH.nil)
      go_simp
      refine (rd_pick B g (p + 1) 256 _ (Rd.drew H1) (by omega) (by omega) (by omega)).mono ?_; rintro e y1 ⟨x, rfl, x0, x1, _, hrx, hgx⟩
      have GX := grown_trans' (only_drew G1) hgx
      have x1' := x1 (by omega)
      have e9 : x.tmod (Sx.two l) = x % Sx.two l := Int.tmod_eq_emod_of_nonneg x0
      have z0 : 0 ≤ x % Sx.two l := Int.emod_nonneg _ (by omega)
      have z1 : x % Sx.two l < Sx.two l := Int.emod_lt_of_pos _ (by omega)
      have z2 : IntKind.i64.wrap (x % Sx.two l) = x % Sx.two l := IntWalk.i64_in _ (by omega)
      try go_wp2_with fail
      refine hK.out _ _ (by (try dsimp only); first | exact keepG3 (by assumption) hgx hne) (fun hHeld => ?_)
      clear hK K
      try simp only [Act.put, List.setIfInBounds_toArray, List.set_cons_zero, List.set_cons_succ]
      refine wpAnyH_ready (rs := [4]) (by kernel_rfl) (by simp) (AllReadyH.cons (i := 4) (o := { dst := some 40, op := Op.call { callee := Callee.value (Operand.func 57), args := #[Operand.tmp 39], argTypes := #[28] }, type := 3, pos := "l2_words.go:360", after := #[{ on := 3, ground := Ground.data }, { on := 1, ground := Ground.chain }], guard := none }) rfl (fun K hK => ?_) AllReadyH.nil)
      go_simp
      refine ((unhide CC) _).mono ?_; rintro e y2 ⟨rfl, hbx⟩
      have HRX := hrx.below hbx
      have GY := grown_more GX hbx
      try go_wp2_with fail
      refine hK.out _ _ (by (try dsimp only); first | exact keepB3 (by assumption) hbx) (fun hHeld => ?_)
      clear hK K
      try simp only [Act.put, List.setIfInBounds_toArray, List.set_cons_zero, List.set_cons_succ]
      refine wpAnyH_take (i := 5) (oi := { dst := some 41, op := Op.binOp BinOp.rem 3 (Operand.tmp 37) (Operand.tmp 40) 3, type := 3, pos := "l2_words.go:360", after := #[{ on := 1, ground := Ground.data }, { on := 4, ground := Ground.data }], guard := none }) (v := ?_) rfl (by kernel_rfl) (by kernel_rfl) (by kernel_rfl) (fun _ _ _ h => h) (Or.inl ⟨by rfl, ?_⟩) (by assumption) ?_; rotate_left
      · intro W hW; (try dsimp only at hW); go_simp;  try (with_reducible rfl)
      try simp only [Act.put, List.setIfInBounds_toArray, List.set_cons_zero, List.set_cons_succ]
      refine wpAnyH_take (i := 6) (oi := { dst := some 4, op := Op.assign (Operand.tmp 41), type := 3, pos := "l2_words.go:360", after := #[{ on := 5, ground := Ground.data }, { on := 4, ground := Ground.chain }, { on := 0, ground := Ground.phase }, { on := 1, ground := Ground.phase }, { on := 2, ground := Ground.phase }, { on := 3, ground := Ground.phase }, { on := 4, ground := Ground.phase }, { on := 5, ground := Ground.phase }], guard := none }) (v := ?_) rfl (by kernel_rfl) (by kernel_rfl) (by kernel_rfl) (fun _ _ _ h => h) (Or.inl ⟨by rfl, ?_⟩) (by assumption) ?_; rotate_left
      · intro W hW; (try dsimp only at hW); go_simp;  try (with_reducible rfl)
      try simp only [Act.put, List.setIfInBounds_toArray, List.set_cons_zero, List.set_cons_succ]
      refine wpAnyH_done (by kernel_rfl) ?_ _
      go_wp2_with fail
      go_ret
      exact pick_mk (Sx.can_lit z0 z1) HRX GY (by omega)
    · have hzI : (0 : Int) < (n : Int) := by omega
      go_wp2_with fail
      refine ((unhide CE) _).mono ?_; rintro e w2 ⟨rfl, hb⟩
      have K2 := K1.below hb K1.lt
      have H2 := H1.below hb
      have G2 := grown_more G1 hb
      have e1 : IntKind.i64.wrap (Sx.two l + 1 + 1) = Sx.two l + 1 + 1 := IntWalk.i64_in _ (by omega)
      clear a0 a1 a2 a3 a4 a5 K1 H1 G1 hb
      go_wp2_with fail
      refine (rd_pick B g (p + 1) 256 _ H2 (by omega) (by omega) (by omega)).mono ?_; rintro e w3 ⟨x, rfl, x0, x1, _, H3, hg3⟩
      have G3 := grown_trans' G2 hg3
      have x1 := x1 (by omega)
      have e2 : IntKind.i64.wrap (x * 256) = x * 256 := IntWalk.i64_in _ (by omega)
      clear H2 G2 hg3 K2
      go_wp2_with fail
      refine (rd_pick B g (p + 1 + 1) 256 _ H3 (by omega) (by omega) (by omega)).mono ?_; rintro e w4 ⟨y, rfl, y0, y1, _, H4, hg4⟩
      have G4 := grown_trans' G3 hg4
      have y1 := y1 (by omega)
      have e3 : IntKind.i64.wrap (x * 256 + y) = x * 256 + y := IntWalk.i64_in _ (by omega)
      have e9 : (x * 256 + y).tmod (n : Int) = (x * 256 + y) % (n : Int) := Int.tmod_eq_emod_of_nonneg (by omega)
      have z0 : 0 ≤ (x * 256 + y) % (n : Int) := Int.emod_nonneg _ (by omega)
      have z1 : (x * 256 + y) % (n : Int) < (n : Int) := Int.emod_lt_of_pos _ (by omega)
      have z2 : IntKind.i64.wrap ((x * 256 + y) % (n : Int)) = (x * 256 + y) % (n : Int) := IntWalk.i64_in _ (by omega)
      have e4 : IntKind.i64.wrap (Sx.two l + 1 + 1 + (x * 256 + y) % (n : Int)) = Sx.two l + 1 + 1 + (x * 256 + y) % (n : Int) := IntWalk.i64_in _ (by omega)
      clear H3 G3 hg4
      go_wp2_with fail
      go_ret
      exact pick_mk (Sx.can_pair (by omega) (by omega)) H4 G4 (by omega)
  · skip
    by_cases hz : n = 0
    · subst hz
      go_wp2_with fail
      have s11 : w1.drew.cell? ⟨w.heap.size, 0, none⟩ = some (.int .i64 o) ∧ w1.drew.cell? ⟨w.heap.size, 1, none⟩ = some (.int .i64 l) ∧ w1.drew.cell? ⟨w.heap.size, 2, none⟩ = some (.int .i64 m) := ⟨K1.cell 0, K1.cell 1, K1.cell 2⟩
      refine wp_region_held_drew (S := (fun W => W.cell? ⟨w.heap.size, 0, none⟩ = some (.int .i64 o) ∧ W.cell? ⟨w.heap.size, 1, none⟩ = some (.int .i64 l) ∧ W.cell? ⟨w.heap.size, 2, none⟩ = some (.int .i64 m))) (by kernel_rfl) (by first | assumption | exact s11) (fun hHeld => ?_)
      refine wpAnyH_take (i := 0) (oi := { dst := some 36, op := Op.move (Operand.tmp 0), type := 82, pos := "l2_words.go:360", after := #[], guard := none }) (v := ?_) rfl (by kernel_rfl) (by kernel_rfl) (by kernel_rfl) (fun _ _ _ h => h) (Or.inl ⟨by rfl, ?_⟩) (by assumption) ?_; rotate_left
      · intro W hW; (try dsimp only at hW); go_simp;  try (with_reducible rfl)
      try simp only [Act.put, List.setIfInBounds_toArray, List.set_cons_zero, List.set_cons_succ]
      refine wpAnyH_take (i := 2) (oi := { dst := some 38, op := Op.fieldAddr 31 (Operand.tmp 3) 0, type := 0, pos := "l2_words.go:360", after := #[], guard := none }) (v := ?_) rfl (by kernel_rfl) (by kernel_rfl) (by kernel_rfl) (fun _ _ _ h => h) (Or.inl ⟨by rfl, ?_⟩) (by assumption) ?_; rotate_left
      · intro W hW; (try dsimp only at hW); go_simp;  try (with_reducible rfl)
      try simp only [Act.put, List.setIfInBounds_toArray, List.set_cons_zero, List.set_cons_succ]
      refine wpAnyH_take (i := 3) (oi := { dst := some 39, op := Op.load 28 (Operand.tmp 38), type := 28, pos := "l2_words.go:360", after := #[{ on := 2, ground := Ground.data }], guard := none }) (v := ?_) rfl (by kernel_rfl) (by kernel_rfl) (by kernel_rfl) (fun _ _ _ h => h) (Or.inl ⟨by rfl, ?_⟩) (by assumption) ?_; rotate_left
      · intro W hW; (try dsimp only at hW); go_simp;  try (with_reducible rfl)
      try simp only [Act.put, List.setIfInBounds_toArray, List.set_cons_zero, List.set_cons_succ]
      refine wpAnyH_ready (rs := [1]) (by kernel_rfl) (by simp) (AllReadyH.cons (i := 1) (o := { dst := some 37, op := Op.call { callee := Callee.value (Operand.func 85), args := #[Operand.tmp 36, Operand.const (Value.int IntKind.i64 256)], argTypes := #[82, 3] }, type := 3, pos := "l2_words.go:360", after := #[{ on := 0, ground := Ground.data }], guard := none }) rfl (fun K hK => ?_) AllReadyH.nil)
      go_simp
      refine (rd_pick B g (p + 1) 256 _ (Rd.drew H1) (by omega) (by omega) (by omega)).mono ?_; rintro e y1 ⟨x, rfl, x0, x1, _, hrx, hgx⟩
      have GX := grown_trans' (only_drew G1) hgx
      have x1' := x1 (by omega)
      have e9 : x.tmod (Sx.two l) = x % Sx.two l := Int.tmod_eq_emod_of_nonneg x0
      have z0 : 0 ≤ x % Sx.two l := Int.emod_nonneg _ (by omega)
      have z1 : x % Sx.two l < Sx.two l := Int.emod_lt_of_pos _ (by omega)
      have z2 : IntKind.i64.wrap (x % Sx.two l) = x % Sx.two l := IntWalk.i64_in _ (by omega)
      try go_wp2_with fail
      refine hK.out _ _ (by (try dsimp only); first | exact keepG3 (by assumption) hgx hne) (fun hHeld => ?_)
      clear hK K
      try simp only [Act.put, List.setIfInBounds_toArray, List.set_cons_zero, List.set_cons_succ]
      refine wpAnyH_ready (rs := [4]) (by kernel_rfl) (by simp) (AllReadyH.cons (i := 4) (o := { dst := some 40, op := Op.call { callee := Callee.value (Operand.func 57), args := #[Operand.tmp 39], argTypes := #[28] }, type := 3, pos := "l2_words.go:360", after := #[{ on := 3, ground := Ground.data }, { on := 1, ground := Ground.chain }], guard := none }) rfl (fun K hK => ?_) AllReadyH.nil)
      go_simp
      refine ((unhide CC) _).mono ?_; rintro e y2 ⟨rfl, hbx⟩
      have HRX := hrx.below hbx
      have GY := grown_more GX hbx
      try go_wp2_with fail
      refine hK.out _ _ (by (try dsimp only); first | exact keepB3 (by assumption) hbx) (fun hHeld => ?_)
      clear hK K
      try simp only [Act.put, List.setIfInBounds_toArray, List.set_cons_zero, List.set_cons_succ]
      refine wpAnyH_take (i := 5) (oi := { dst := some 41, op := Op.binOp BinOp.rem 3 (Operand.tmp 37) (Operand.tmp 40) 3, type := 3, pos := "l2_words.go:360", after := #[{ on := 1, ground := Ground.data }, { on := 4, ground := Ground.data }], guard := none }) (v := ?_) rfl (by kernel_rfl) (by kernel_rfl) (by kernel_rfl) (fun _ _ _ h => h) (Or.inl ⟨by rfl, ?_⟩) (by assumption) ?_; rotate_left
      · intro W hW; (try dsimp only at hW); go_simp;  try (with_reducible rfl)
      try simp only [Act.put, List.setIfInBounds_toArray, List.set_cons_zero, List.set_cons_succ]
      refine wpAnyH_take (i := 6) (oi := { dst := some 4, op := Op.assign (Operand.tmp 41), type := 3, pos := "l2_words.go:360", after := #[{ on := 5, ground := Ground.data }, { on := 4, ground := Ground.chain }, { on := 0, ground := Ground.phase }, { on := 1, ground := Ground.phase }, { on := 2, ground := Ground.phase }, { on := 3, ground := Ground.phase }, { on := 4, ground := Ground.phase }, { on := 5, ground := Ground.phase }], guard := none }) (v := ?_) rfl (by kernel_rfl) (by kernel_rfl) (by kernel_rfl) (fun _ _ _ h => h) (Or.inl ⟨by rfl, ?_⟩) (by assumption) ?_; rotate_left
      · intro W hW; (try dsimp only at hW); go_simp;  try (with_reducible rfl)
      try simp only [Act.put, List.setIfInBounds_toArray, List.set_cons_zero, List.set_cons_succ]
      refine wpAnyH_done (by kernel_rfl) ?_ _
      go_wp2_with fail
      go_ret
      exact pick_mk (Sx.can_lit z0 z1) HRX GY (by omega)
    · have hzI : (0 : Int) < (n : Int) := by omega
      go_wp2_with fail
      refine ((unhide CE) _).mono ?_; rintro e w2 ⟨rfl, hb⟩
      have K2 := K1.below hb K1.lt
      have H2 := H1.below hb
      have G2 := grown_more G1 hb
      have e1 : IntKind.i64.wrap (Sx.two l + 1 + 1) = Sx.two l + 1 + 1 := IntWalk.i64_in _ (by omega)
      clear a0 a1 a2 a3 a4 a5 K1 H1 G1 hb
      go_wp2_with fail
      refine (rd_pick B g (p + 1) 256 _ H2 (by omega) (by omega) (by omega)).mono ?_; rintro e w3 ⟨x, rfl, x0, x1, _, H3, hg3⟩
      have G3 := grown_trans' G2 hg3
      have x1 := x1 (by omega)
      have e2 : IntKind.i64.wrap (x * 256) = x * 256 := IntWalk.i64_in _ (by omega)
      clear H2 G2 hg3 K2
      go_wp2_with fail
      refine (rd_pick B g (p + 1 + 1) 256 _ H3 (by omega) (by omega) (by omega)).mono ?_; rintro e w4 ⟨y, rfl, y0, y1, _, H4, hg4⟩
      have G4 := grown_trans' G3 hg4
      have y1 := y1 (by omega)
      have e3 : IntKind.i64.wrap (x * 256 + y) = x * 256 + y := IntWalk.i64_in _ (by omega)
      have e9 : (x * 256 + y).tmod (n : Int) = (x * 256 + y) % (n : Int) := Int.tmod_eq_emod_of_nonneg (by omega)
      have z0 : 0 ≤ (x * 256 + y) % (n : Int) := Int.emod_nonneg _ (by omega)
      have z1 : (x * 256 + y) % (n : Int) < (n : Int) := Int.emod_lt_of_pos _ (by omega)
      have z2 : IntKind.i64.wrap ((x * 256 + y) % (n : Int)) = (x * 256 + y) % (n : Int) := IntWalk.i64_in _ (by omega)
      have e4 : IntKind.i64.wrap (Sx.two l + 1 + 1 + (x * 256 + y) % (n : Int)) = Sx.two l + 1 + 1 + (x * 256 + y) % (n : Int) := IntWalk.i64_in _ (by omega)
      clear H3 G3 hg4
      go_wp2_with fail
      go_ret
      exact pick_mk (Sx.can_pair (by omega) (by omega)) H4 G4 (by omega)
  · skip
    go_wp2_with fail
    have s11 : w1.drew.cell? ⟨w.heap.size, 0, none⟩ = some (.int .i64 o) ∧ w1.drew.cell? ⟨w.heap.size, 1, none⟩ = some (.int .i64 l) ∧ w1.drew.cell? ⟨w.heap.size, 2, none⟩ = some (.int .i64 m) := ⟨K1.cell 0, K1.cell 1, K1.cell 2⟩
    refine wp_region_held_drew (S := (fun W => W.cell? ⟨w.heap.size, 0, none⟩ = some (.int .i64 o) ∧ W.cell? ⟨w.heap.size, 1, none⟩ = some (.int .i64 l) ∧ W.cell? ⟨w.heap.size, 2, none⟩ = some (.int .i64 m))) (by kernel_rfl) (by first | assumption | exact s11) (fun hHeld => ?_)
    refine wpAnyH_take (i := 0) (oi := { dst := some 36, op := Op.move (Operand.tmp 0), type := 82, pos := "l2_words.go:360", after := #[], guard := none }) (v := ?_) rfl (by kernel_rfl) (by kernel_rfl) (by kernel_rfl) (fun _ _ _ h => h) (Or.inl ⟨by rfl, ?_⟩) (by assumption) ?_; rotate_left
    · intro W hW; (try dsimp only at hW); go_simp;  try (with_reducible rfl)
    try simp only [Act.put, List.setIfInBounds_toArray, List.set_cons_zero, List.set_cons_succ]
    refine wpAnyH_take (i := 2) (oi := { dst := some 38, op := Op.fieldAddr 31 (Operand.tmp 3) 0, type := 0, pos := "l2_words.go:360", after := #[], guard := none }) (v := ?_) rfl (by kernel_rfl) (by kernel_rfl) (by kernel_rfl) (fun _ _ _ h => h) (Or.inl ⟨by rfl, ?_⟩) (by assumption) ?_; rotate_left
    · intro W hW; (try dsimp only at hW); go_simp;  try (with_reducible rfl)
    try simp only [Act.put, List.setIfInBounds_toArray, List.set_cons_zero, List.set_cons_succ]
    refine wpAnyH_take (i := 3) (oi := { dst := some 39, op := Op.load 28 (Operand.tmp 38), type := 28, pos := "l2_words.go:360", after := #[{ on := 2, ground := Ground.data }], guard := none }) (v := ?_) rfl (by kernel_rfl) (by kernel_rfl) (by kernel_rfl) (fun _ _ _ h => h) (Or.inl ⟨by rfl, ?_⟩) (by assumption) ?_; rotate_left
    · intro W hW; (try dsimp only at hW); go_simp;  try (with_reducible rfl)
    try simp only [Act.put, List.setIfInBounds_toArray, List.set_cons_zero, List.set_cons_succ]
    refine wpAnyH_ready (rs := [1]) (by kernel_rfl) (by simp) (AllReadyH.cons (i := 1) (o := { dst := some 37, op := Op.call { callee := Callee.value (Operand.func 85), args := #[Operand.tmp 36, Operand.const (Value.int IntKind.i64 256)], argTypes := #[82, 3] }, type := 3, pos := "l2_words.go:360", after := #[{ on := 0, ground := Ground.data }], guard := none }) rfl (fun K hK => ?_) AllReadyH.nil)
    go_simp
    refine (rd_pick B g (p + 1) 256 _ (Rd.drew H1) (by omega) (by omega) (by omega)).mono ?_; rintro e y1 ⟨x, rfl, x0, x1, _, hrx, hgx⟩
    have GX := grown_trans' (only_drew G1) hgx
    have x1' := x1 (by omega)
    have e9 : x.tmod (Sx.two l) = x % Sx.two l := Int.tmod_eq_emod_of_nonneg x0
    have z0 : 0 ≤ x % Sx.two l := Int.emod_nonneg _ (by omega)
    have z1 : x % Sx.two l < Sx.two l := Int.emod_lt_of_pos _ (by omega)
    have z2 : IntKind.i64.wrap (x % Sx.two l) = x % Sx.two l := IntWalk.i64_in _ (by omega)
    try go_wp2_with fail
    refine hK.out _ _ (by (try dsimp only); first | exact keepG3 (by assumption) hgx hne) (fun hHeld => ?_)
    clear hK K
    try simp only [Act.put, List.setIfInBounds_toArray, List.set_cons_zero, List.set_cons_succ]
    refine wpAnyH_ready (rs := [4]) (by kernel_rfl) (by simp) (AllReadyH.cons (i := 4) (o := { dst := some 40, op := Op.call { callee := Callee.value (Operand.func 57), args := #[Operand.tmp 39], argTypes := #[28] }, type := 3, pos := "l2_words.go:360", after := #[{ on := 3, ground := Ground.data }, { on := 1, ground := Ground.chain }], guard := none }) rfl (fun K hK => ?_) AllReadyH.nil)
    go_simp
    refine ((unhide CC) _).mono ?_; rintro e y2 ⟨rfl, hbx⟩
    have HRX := hrx.below hbx
    have GY := grown_more GX hbx
    try go_wp2_with fail
    refine hK.out _ _ (by (try dsimp only); first | exact keepB3 (by assumption) hbx) (fun hHeld => ?_)
    clear hK K
    try simp only [Act.put, List.setIfInBounds_toArray, List.set_cons_zero, List.set_cons_succ]
    refine wpAnyH_take (i := 5) (oi := { dst := some 41, op := Op.binOp BinOp.rem 3 (Operand.tmp 37) (Operand.tmp 40) 3, type := 3, pos := "l2_words.go:360", after := #[{ on := 1, ground := Ground.data }, { on := 4, ground := Ground.data }], guard := none }) (v := ?_) rfl (by kernel_rfl) (by kernel_rfl) (by kernel_rfl) (fun _ _ _ h => h) (Or.inl ⟨by rfl, ?_⟩) (by assumption) ?_; rotate_left
    · intro W hW; (try dsimp only at hW); go_simp;  try (with_reducible rfl)
    try simp only [Act.put, List.setIfInBounds_toArray, List.set_cons_zero, List.set_cons_succ]
    refine wpAnyH_take (i := 6) (oi := { dst := some 4, op := Op.assign (Operand.tmp 41), type := 3, pos := "l2_words.go:360", after := #[{ on := 5, ground := Ground.data }, { on := 4, ground := Ground.chain }, { on := 0, ground := Ground.phase }, { on := 1, ground := Ground.phase }, { on := 2, ground := Ground.phase }, { on := 3, ground := Ground.phase }, { on := 4, ground := Ground.phase }, { on := 5, ground := Ground.phase }], guard := none }) (v := ?_) rfl (by kernel_rfl) (by kernel_rfl) (by kernel_rfl) (fun _ _ _ h => h) (Or.inl ⟨by rfl, ?_⟩) (by assumption) ?_; rotate_left
    · intro W hW; (try dsimp only at hW); go_simp;  try (with_reducible rfl)
    try simp only [Act.put, List.setIfInBounds_toArray, List.set_cons_zero, List.set_cons_succ]
    refine wpAnyH_done (by kernel_rfl) ?_ _
    go_wp2_with fail
    go_ret
    exact pick_mk (Sx.can_lit z0 z1) HRX GY (by omega)
  · skip
    go_wp2_with fail
    have s11 : w1.drew.cell? ⟨w.heap.size, 0, none⟩ = some (.int .i64 o) ∧ w1.drew.cell? ⟨w.heap.size, 1, none⟩ = some (.int .i64 l) ∧ w1.drew.cell? ⟨w.heap.size, 2, none⟩ = some (.int .i64 m) := ⟨K1.cell 0, K1.cell 1, K1.cell 2⟩
    refine wp_region_held_drew (S := (fun W => W.cell? ⟨w.heap.size, 0, none⟩ = some (.int .i64 o) ∧ W.cell? ⟨w.heap.size, 1, none⟩ = some (.int .i64 l) ∧ W.cell? ⟨w.heap.size, 2, none⟩ = some (.int .i64 m))) (by kernel_rfl) (by first | assumption | exact s11) (fun hHeld => ?_)
    refine wpAnyH_take (i := 0) (oi := { dst := some 36, op := Op.move (Operand.tmp 0), type := 82, pos := "l2_words.go:360", after := #[], guard := none }) (v := ?_) rfl (by kernel_rfl) (by kernel_rfl) (by kernel_rfl) (fun _ _ _ h => h) (Or.inl ⟨by rfl, ?_⟩) (by assumption) ?_; rotate_left
    · intro W hW; (try dsimp only at hW); go_simp;  try (with_reducible rfl)
    try simp only [Act.put, List.setIfInBounds_toArray, List.set_cons_zero, List.set_cons_succ]
    refine wpAnyH_take (i := 2) (oi := { dst := some 38, op := Op.fieldAddr 31 (Operand.tmp 3) 0, type := 0, pos := "l2_words.go:360", after := #[], guard := none }) (v := ?_) rfl (by kernel_rfl) (by kernel_rfl) (by kernel_rfl) (fun _ _ _ h => h) (Or.inl ⟨by rfl, ?_⟩) (by assumption) ?_; rotate_left
    · intro W hW; (try dsimp only at hW); go_simp;  try (with_reducible rfl)
    try simp only [Act.put, List.setIfInBounds_toArray, List.set_cons_zero, List.set_cons_succ]
    refine wpAnyH_take (i := 3) (oi := { dst := some 39, op := Op.load 28 (Operand.tmp 38), type := 28, pos := "l2_words.go:360", after := #[{ on := 2, ground := Ground.data }], guard := none }) (v := ?_) rfl (by kernel_rfl) (by kernel_rfl) (by kernel_rfl) (fun _ _ _ h => h) (Or.inl ⟨by rfl, ?_⟩) (by assumption) ?_; rotate_left
    · intro W hW; (try dsimp only at hW); go_simp;  try (with_reducible rfl)
    try simp only [Act.put, List.setIfInBounds_toArray, List.set_cons_zero, List.set_cons_succ]
    refine wpAnyH_ready (rs := [1]) (by kernel_rfl) (by simp) (AllReadyH.cons (i := 1) (o := { dst := some 37, op := Op.call { callee := Callee.value (Operand.func 85), args := #[Operand.tmp 36, Operand.const (Value.int IntKind.i64 256)], argTypes := #[82, 3] }, type := 3, pos := "l2_words.go:360", after := #[{ on := 0, ground := Ground.data }], guard := none }) rfl (fun K hK => ?_) AllReadyH.nil)
    go_simp
    refine (rd_pick B g (p + 1) 256 _ (Rd.drew H1) (by omega) (by omega) (by omega)).mono ?_; rintro e y1 ⟨x, rfl, x0, x1, _, hrx, hgx⟩
    have GX := grown_trans' (only_drew G1) hgx
    have x1' := x1 (by omega)
    have e9 : x.tmod (Sx.two l) = x % Sx.two l := Int.tmod_eq_emod_of_nonneg x0
    have z0 : 0 ≤ x % Sx.two l := Int.emod_nonneg _ (by omega)
    have z1 : x % Sx.two l < Sx.two l := Int.emod_lt_of_pos _ (by omega)
    have z2 : IntKind.i64.wrap (x % Sx.two l) = x % Sx.two l := IntWalk.i64_in _ (by omega)
    try go_wp2_with fail
    refine hK.out _ _ (by (try dsimp only); first | exact keepG3 (by assumption) hgx hne) (fun hHeld => ?_)
    clear hK K
    try simp only [Act.put, List.setIfInBounds_toArray, List.set_cons_zero, List.set_cons_succ]
    refine wpAnyH_ready (rs := [4]) (by kernel_rfl) (by simp) (AllReadyH.cons (i := 4) (o := { dst := some 40, op := Op.call { callee := Callee.value (Operand.func 57), args := #[Operand.tmp 39], argTypes := #[28] }, type := 3, pos := "l2_words.go:360", after := #[{ on := 3, ground := Ground.data }, { on := 1, ground := Ground.chain }], guard := none }) rfl (fun K hK => ?_) AllReadyH.nil)
    go_simp
    refine ((unhide CC) _).mono ?_; rintro e y2 ⟨rfl, hbx⟩
    have HRX := hrx.below hbx
    have GY := grown_more GX hbx
    try go_wp2_with fail
    refine hK.out _ _ (by (try dsimp only); first | exact keepB3 (by assumption) hbx) (fun hHeld => ?_)
    clear hK K
    try simp only [Act.put, List.setIfInBounds_toArray, List.set_cons_zero, List.set_cons_succ]
    refine wpAnyH_take (i := 5) (oi := { dst := some 41, op := Op.binOp BinOp.rem 3 (Operand.tmp 37) (Operand.tmp 40) 3, type := 3, pos := "l2_words.go:360", after := #[{ on := 1, ground := Ground.data }, { on := 4, ground := Ground.data }], guard := none }) (v := ?_) rfl (by kernel_rfl) (by kernel_rfl) (by kernel_rfl) (fun _ _ _ h => h) (Or.inl ⟨by rfl, ?_⟩) (by assumption) ?_; rotate_left
    · intro W hW; (try dsimp only at hW); go_simp;  try (with_reducible rfl)
    try simp only [Act.put, List.setIfInBounds_toArray, List.set_cons_zero, List.set_cons_succ]
    refine wpAnyH_take (i := 6) (oi := { dst := some 4, op := Op.assign (Operand.tmp 41), type := 3, pos := "l2_words.go:360", after := #[{ on := 5, ground := Ground.data }, { on := 4, ground := Ground.chain }, { on := 0, ground := Ground.phase }, { on := 1, ground := Ground.phase }, { on := 2, ground := Ground.phase }, { on := 3, ground := Ground.phase }, { on := 4, ground := Ground.phase }, { on := 5, ground := Ground.phase }], guard := none }) (v := ?_) rfl (by kernel_rfl) (by kernel_rfl) (by kernel_rfl) (fun _ _ _ h => h) (Or.inl ⟨by rfl, ?_⟩) (by assumption) ?_; rotate_left
    · intro W hW; (try dsimp only at hW); go_simp;  try (with_reducible rfl)
    try simp only [Act.put, List.setIfInBounds_toArray, List.set_cons_zero, List.set_cons_succ]
    refine wpAnyH_done (by kernel_rfl) ?_ _
    go_wp2_with fail
    go_ret
    exact pick_mk (Sx.can_lit z0 z1) HRX GY (by omega)

end Go.Proofs.Ytegfcpdkehgdpaa

/- The walks of the laws' helpers on what is known: the same twice, and the word of a code. Conditions: the pairs' cells lie below the call's own memory. -/
import Derived.Test.YtegfcpdkehgdpaaW3
namespace Go.Proofs.Ytegfcpdkehgdpaa
open Go.RowKit

set_option maxRecDepth 100000 in
set_option maxHeartbeats 2000000 in
theorem laws_soKnown (o l m : Int) (A A' : Option Addr) (c c' : Nat) (b t : Int) (ps : List (Int × Int)) (w : World) (hr : PR w w.heap.size A ps) (hr' : PR w w.heap.size A' ps) (hz : ps.length ≤ 1048576) :
    Calls Try.prog 38 #[kv o l m A ps.length c b t, kv o l m A' ps.length c' b t] w fun e w' => e = .returned (.bool true) ∧ Below w.heap.size w w' := by
  have B0 : Below w.heap.size w ((w.alloc (.cells #[.int .i64 o, .int .i64 l, .int .i64 m, .slice A ps.length c, .int .i64 b, .int .i64 t] 31)).alloc (.cells #[.int .i64 o, .int .i64 l, .int .i64 m, .slice A' ps.length c', .int .i64 b, .int .i64 t] 31)) := ((Below.refl _ _).alloc (Nat.le_refl _) _).alloc (by simp) _
  have K1 := (Blk.new w 31 #[.int .i64 o, .int .i64 l, .int .i64 m, .slice A ps.length c, .int .i64 b, .int .i64 t]).alloc (.cells #[.int .i64 o, .int .i64 l, .int .i64 m, .slice A' ps.length c', .int .i64 b, .int .i64 t] 31)
  have K2 := blk_new2 w (.cells #[.int .i64 o, .int .i64 l, .int .i64 m, .slice A ps.length c, .int .i64 b, .int .i64 t] 31) 31 #[.int .i64 o, .int .i64 l, .int .i64 m, .slice A' ps.length c', .int .i64 b, .int .i64 t]
  have a0 : ((w.alloc (.cells #[.int .i64 o, .int .i64 l, .int .i64 m, .slice A ps.length c, .int .i64 b, .int .i64 t] 31)).alloc (.cells #[.int .i64 o, .int .i64 l, .int .i64 m, .slice A' ps.length c', .int .i64 b, .int .i64 t] 31)).cell? ⟨w.heap.size, 0, none⟩ = some (.int .i64 o) := K1.cell 0
  have a1 : ((w.alloc (.cells #[.int .i64 o, .int .i64 l, .int .i64 m, .slice A ps.length c, .int .i64 b, .int .i64 t] 31)).alloc (.cells #[.int .i64 o, .int .i64 l, .int .i64 m, .slice A' ps.length c', .int .i64 b, .int .i64 t] 31)).cell? ⟨w.heap.size, 1, none⟩ = some (.int .i64 l) := K1.cell 1
  have a2 : ((w.alloc (.cells #[.int .i64 o, .int .i64 l, .int .i64 m, .slice A ps.length c, .int .i64 b, .int .i64 t] 31)).alloc (.cells #[.int .i64 o, .int .i64 l, .int .i64 m, .slice A' ps.length c', .int .i64 b, .int .i64 t] 31)).cell? ⟨w.heap.size, 2, none⟩ = some (.int .i64 m) := K1.cell 2
  have a3 : ((w.alloc (.cells #[.int .i64 o, .int .i64 l, .int .i64 m, .slice A ps.length c, .int .i64 b, .int .i64 t] 31)).alloc (.cells #[.int .i64 o, .int .i64 l, .int .i64 m, .slice A' ps.length c', .int .i64 b, .int .i64 t] 31)).cell? ⟨w.heap.size, 3, none⟩ = some (.slice A ps.length c) := K1.cell 3
  have a4 : ((w.alloc (.cells #[.int .i64 o, .int .i64 l, .int .i64 m, .slice A ps.length c, .int .i64 b, .int .i64 t] 31)).alloc (.cells #[.int .i64 o, .int .i64 l, .int .i64 m, .slice A' ps.length c', .int .i64 b, .int .i64 t] 31)).cell? ⟨w.heap.size, 4, none⟩ = some (.int .i64 b) := K1.cell 4
  have a5 : ((w.alloc (.cells #[.int .i64 o, .int .i64 l, .int .i64 m, .slice A ps.length c, .int .i64 b, .int .i64 t] 31)).alloc (.cells #[.int .i64 o, .int .i64 l, .int .i64 m, .slice A' ps.length c', .int .i64 b, .int .i64 t] 31)).cell? ⟨w.heap.size, 5, none⟩ = some (.int .i64 t) := K1.cell 5
  have b0 : ((w.alloc (.cells #[.int .i64 o, .int .i64 l, .int .i64 m, .slice A ps.length c, .int .i64 b, .int .i64 t] 31)).alloc (.cells #[.int .i64 o, .int .i64 l, .int .i64 m, .slice A' ps.length c', .int .i64 b, .int .i64 t] 31)).cell? ⟨(w.heap.size + 1), 0, none⟩ = some (.int .i64 o) := K2.cell 0
  have b1 : ((w.alloc (.cells #[.int .i64 o, .int .i64 l, .int .i64 m, .slice A ps.length c, .int .i64 b, .int .i64 t] 31)).alloc (.cells #[.int .i64 o, .int .i64 l, .int .i64 m, .slice A' ps.length c', .int .i64 b, .int .i64 t] 31)).cell? ⟨(w.heap.size + 1), 1, none⟩ = some (.int .i64 l) := K2.cell 1
  have b2 : ((w.alloc (.cells #[.int .i64 o, .int .i64 l, .int .i64 m, .slice A ps.length c, .int .i64 b, .int .i64 t] 31)).alloc (.cells #[.int .i64 o, .int .i64 l, .int .i64 m, .slice A' ps.length c', .int .i64 b, .int .i64 t] 31)).cell? ⟨(w.heap.size + 1), 2, none⟩ = some (.int .i64 m) := K2.cell 2
  have b3 : ((w.alloc (.cells #[.int .i64 o, .int .i64 l, .int .i64 m, .slice A ps.length c, .int .i64 b, .int .i64 t] 31)).alloc (.cells #[.int .i64 o, .int .i64 l, .int .i64 m, .slice A' ps.length c', .int .i64 b, .int .i64 t] 31)).cell? ⟨(w.heap.size + 1), 3, none⟩ = some (.slice A' ps.length c') := K2.cell 3
  have b4 : ((w.alloc (.cells #[.int .i64 o, .int .i64 l, .int .i64 m, .slice A ps.length c, .int .i64 b, .int .i64 t] 31)).alloc (.cells #[.int .i64 o, .int .i64 l, .int .i64 m, .slice A' ps.length c', .int .i64 b, .int .i64 t] 31)).cell? ⟨(w.heap.size + 1), 4, none⟩ = some (.int .i64 b) := K2.cell 4
  have b5 : ((w.alloc (.cells #[.int .i64 o, .int .i64 l, .int .i64 m, .slice A ps.length c, .int .i64 b, .int .i64 t] 31)).alloc (.cells #[.int .i64 o, .int .i64 l, .int .i64 m, .slice A' ps.length c', .int .i64 b, .int .i64 t] 31)).cell? ⟨(w.heap.size + 1), 5, none⟩ = some (.int .i64 t) := K2.cell 5
  go_enter Try.func38, Try.ntmps38
  go_wp2_with fail
  go_loopw [5] (fun i wr => ∃ k : Nat, k ≤ ps.length ∧ i = .int .i64 k ∧ Below w.heap.size w wr ∧ wr.cell? ⟨w.heap.size, 3, none⟩ = some (.slice A ps.length c) ∧ wr.cell? ⟨w.heap.size + 1, 3, none⟩ = some (.slice A' ps.length c')) (fun i _ => ps.length - (intOf i).toNat)
  case atStart => exact ⟨0, Nat.zero_le _, rfl, B0, K1.cell 3, K2.cell 3⟩
  case round =>
    obtain ⟨k, hk, rfl, hbw, d1, d2⟩ := hrel
    clear B0 K1 K2 a0 a1 a2 a3 a4 a5 b0 b1 b2 b3 b4 b5
    by_cases hlt : k < ps.length
    · obtain ⟨pg, po, rfl, hpg, hpc⟩ := hr (by omega)
      obtain ⟨qg, qo, rfl, hqg, hqc⟩ := hr' (by omega)
      obtain ⟨px, hpx⟩ : ∃ x, x = (ps[k]).1 := ⟨_, rfl⟩
      obtain ⟨py, hpy⟩ : ∃ x, x = (ps[k]).2 := ⟨_, rfl⟩
      have hx := hpc k hlt
      have hy := hqc k hlt
      rw [← hpx, ← hpy] at hx hy
      have s0 : Below w.heap.size w wr.drew ∧ wr.drew.cell? ⟨w.heap.size, 3, none⟩ = some (.slice (some ⟨pg, po, none⟩) ps.length c) ∧ wr.drew.cell? ⟨w.heap.size + 1, 3, none⟩ = some (.slice (some ⟨qg, qo, none⟩) ps.length c') ∧ wr.drew.cell? ⟨pg, po + k * 2, none⟩ = some (.int .i64 px) ∧ wr.drew.cell? ⟨pg, po + k * 2 + 1, none⟩ = some (.int .i64 py) ∧ wr.drew.cell? ⟨qg, qo + k * 2, none⟩ = some (.int .i64 px) ∧ wr.drew.cell? ⟨qg, qo + k * 2 + 1, none⟩ = some (.int .i64 py) :=
        ⟨hbw.drew, d1, d2, (hbw.cell (p := ⟨pg, po + k * 2, none⟩) hpg).trans hx.1, (hbw.cell (p := ⟨pg, po + k * 2 + 1, none⟩) hpg).trans hx.2, (hbw.cell (p := ⟨qg, qo + k * 2, none⟩) hqg).trans hy.1, (hbw.cell (p := ⟨qg, qo + k * 2 + 1, none⟩) hqg).trans hy.2⟩
      have i0 : (0 : Int) ≤ (k : Int) := Int.natCast_nonneg _
      have i1 : (k : Int) < (ps.length : Int) := by omega
      clear hpx hpy hx hy hpc hqc hpg hqg
      go_wp2_with fail
      refine wp_region_held_drew (S := (fun W => Below w.heap.size w W ∧ W.cell? ⟨w.heap.size, 3, none⟩ = some (.slice (some ⟨pg, po, none⟩) ps.length c) ∧ W.cell? ⟨w.heap.size + 1, 3, none⟩ = some (.slice (some ⟨qg, qo, none⟩) ps.length c') ∧ W.cell? ⟨pg, po + k * 2, none⟩ = some (.int .i64 px) ∧ W.cell? ⟨pg, po + k * 2 + 1, none⟩ = some (.int .i64 py) ∧ W.cell? ⟨qg, qo + k * 2, none⟩ = some (.int .i64 px) ∧ W.cell? ⟨qg, qo + k * 2 + 1, none⟩ = some (.int .i64 py))) (by kernel_rfl) (by first | assumption | exact s0) (fun hHeld => ?_)
      refine wpAnyH_take (i := 0) (oi := { dst := some 41, op := Op.fieldAddr 31 (Operand.tmp 2) 1, type := 0, pos := "laws.go:289", after := #[], guard := none }) (v := ?_) rfl (by kernel_rfl) (by kernel_rfl) (by kernel_rfl) (fun _ _ _ h => h) (Or.inl ⟨by rfl, ?_⟩) (by assumption) ?_; rotate_left
      · intro W hW; (try dsimp only at hW); go_simp;  try (with_reducible rfl)
      try simp only [Act.put, List.setIfInBounds_toArray, List.set_cons_zero, List.set_cons_succ]
      refine wpAnyH_take (i := 1) (oi := { dst := some 42, op := Op.load 29 (Operand.tmp 41), type := 29, pos := "laws.go:289", after := #[{ on := 0, ground := Ground.data }], guard := none }) (v := ?_) rfl (by kernel_rfl) (by kernel_rfl) (by kernel_rfl) (fun _ _ _ h => h) (Or.inl ⟨by rfl, ?_⟩) (by assumption) ?_; rotate_left
      · intro W hW; (try dsimp only at hW); go_simp;  try (with_reducible rfl)
      try simp only [Act.put, List.setIfInBounds_toArray, List.set_cons_zero, List.set_cons_succ]
      refine wpAnyH_take (i := 2) (oi := { dst := some 43, op := Op.move (Operand.tmp 5), type := 3, pos := "laws.go:289", after := #[], guard := none }) (v := ?_) rfl (by kernel_rfl) (by kernel_rfl) (by kernel_rfl) (fun _ _ _ h => h) (Or.inl ⟨by rfl, ?_⟩) (by assumption) ?_; rotate_left
      · intro W hW; (try dsimp only at hW); go_simp;  try (with_reducible rfl)
      try simp only [Act.put, List.setIfInBounds_toArray, List.set_cons_zero, List.set_cons_succ]
      refine wpAnyH_take (i := 3) (oi := { dst := some 44, op := Op.indexAddr 29 (Operand.tmp 42) (Operand.tmp 43), type := 0, pos := "laws.go:289", after := #[{ on := 1, ground := Ground.data }, { on := 2, ground := Ground.data }], guard := none }) (v := ?_) rfl (by kernel_rfl) (by kernel_rfl) (by kernel_rfl) (fun _ _ _ h => h) (Or.inl ⟨by rfl, ?_⟩) (by assumption) ?_; rotate_left
      · intro W hW; (try dsimp only at hW); go_simp;  try (with_reducible rfl)
      try simp only [Act.put, List.setIfInBounds_toArray, List.set_cons_zero, List.set_cons_succ]
      refine wpAnyH_take (i := 4) (oi := { dst := some 45, op := Op.load 63 (Operand.tmp 44), type := 63, pos := "laws.go:289", after := #[{ on := 3, ground := Ground.data }], guard := none }) (v := ?_) rfl (by kernel_rfl) (by kernel_rfl) (by kernel_rfl) (fun _ _ _ h => h) (Or.inl ⟨by rfl, ?_⟩) (by assumption) ?_; rotate_left
      · intro W hW; (try dsimp only at hW); go_simp;  try (with_reducible rfl)
      try simp only [Act.put, List.setIfInBounds_toArray, List.set_cons_zero, List.set_cons_succ]
      refine wpAnyH_take (i := 5) (oi := { dst := some 46, op := Op.fieldAddr 31 (Operand.tmp 3) 1, type := 0, pos := "laws.go:289", after := #[], guard := none }) (v := ?_) rfl (by kernel_rfl) (by kernel_rfl) (by kernel_rfl) (fun _ _ _ h => h) (Or.inl ⟨by rfl, ?_⟩) (by assumption) ?_; rotate_left
      · intro W hW; (try dsimp only at hW); go_simp;  try (with_reducible rfl)
      try simp only [Act.put, List.setIfInBounds_toArray, List.set_cons_zero, List.set_cons_succ]
      refine wpAnyH_take (i := 6) (oi := { dst := some 47, op := Op.load 29 (Operand.tmp 46), type := 29, pos := "laws.go:289", after := #[{ on := 5, ground := Ground.data }], guard := none }) (v := ?_) rfl (by kernel_rfl) (by kernel_rfl) (by kernel_rfl) (fun _ _ _ h => h) (Or.inl ⟨by rfl, ?_⟩) (by assumption) ?_; rotate_left
      · intro W hW; (try dsimp only at hW); go_simp;  try (with_reducible rfl)
      try simp only [Act.put, List.setIfInBounds_toArray, List.set_cons_zero, List.set_cons_succ]
      refine wpAnyH_take (i := 7) (oi := { dst := some 48, op := Op.move (Operand.tmp 5), type := 3, pos := "laws.go:289", after := #[], guard := none }) (v := ?_) rfl (by kernel_rfl) (by kernel_rfl) (by kernel_rfl) (fun _ _ _ h => h) (Or.inl ⟨by rfl, ?_⟩) (by assumption) ?_; rotate_left
      · intro W hW; (try dsimp only at hW); go_simp;  try (with_reducible rfl)
      try simp only [Act.put, List.setIfInBounds_toArray, List.set_cons_zero, List.set_cons_succ]
      refine wpAnyH_take (i := 8) (oi := { dst := some 49, op := Op.indexAddr 29 (Operand.tmp 47) (Operand.tmp 48), type := 0, pos := "laws.go:289", after := #[{ on := 6, ground := Ground.data }, { on := 7, ground := Ground.data }], guard := none }) (v := ?_) rfl (by kernel_rfl) (by kernel_rfl) (by kernel_rfl) (fun _ _ _ h => h) (Or.inl ⟨by rfl, ?_⟩) (by assumption) ?_; rotate_left
      · intro W hW; (try dsimp only at hW); go_simp;  try (with_reducible rfl)
      try simp only [Act.put, List.setIfInBounds_toArray, List.set_cons_zero, List.set_cons_succ]
      refine wpAnyH_take (i := 9) (oi := { dst := some 50, op := Op.load 63 (Operand.tmp 49), type := 63, pos := "laws.go:289", after := #[{ on := 8, ground := Ground.data }], guard := none }) (v := ?_) rfl (by kernel_rfl) (by kernel_rfl) (by kernel_rfl) (fun _ _ _ h => h) (Or.inl ⟨by rfl, ?_⟩) (by assumption) ?_; rotate_left
      · intro W hW; (try dsimp only at hW); go_simp;  try (with_reducible rfl)
      try simp only [Act.put, List.setIfInBounds_toArray, List.set_cons_zero, List.set_cons_succ]
      refine wpAnyH_take (i := 10) (oi := { dst := some 51, op := Op.binOp BinOp.neq 63 (Operand.tmp 45) (Operand.tmp 50) 63, type := 4, pos := "laws.go:289", after := #[{ on := 4, ground := Ground.data }, { on := 9, ground := Ground.data }], guard := none }) (v := ?_) rfl (by kernel_rfl) (by kernel_rfl) (by kernel_rfl) (fun _ _ _ h => h) (Or.inl ⟨by rfl, ?_⟩) (by assumption) ?_; rotate_left
      · intro W hW; (try dsimp only at hW); go_simp;  try (with_reducible rfl)
      try simp only [Act.put, List.setIfInBounds_toArray, List.set_cons_zero, List.set_cons_succ]
      refine wpAnyH_done (by kernel_rfl) ?_ _
      go_wp2_with fail
      go_roundw
      case rel => exact ⟨k + 1, by omega, by go_num, hHeld.1, hHeld.2.1, hHeld.2.2.1⟩
      case measure => simp [intOf]; omega
    · obtain rfl : k = ps.length := by omega
      go_wp2_with fail
      go_ret
      exact ⟨rfl, hbw⟩

set_option maxRecDepth 100000 in
set_option maxHeartbeats 2000000 in
theorem laws_soWord (o l m : Int) (A : Option Addr) (c : Nat) (b t x : Int) (ps : List (Int × Int)) (w : World) (hr : PR w w.heap.size A ps) (hz : ps.length ≤ 1048576) :
    Calls Try.prog 33 #[kv o l m A ps.length c b t, .int .i64 x] w fun e w' => e = .returned (.string (Sx.wordS o l m ps b t x)) ∧ Below w.heap.size w w' := by
  have B0 : Below w.heap.size w (w.alloc (.cells #[.int .i64 o, .int .i64 l, .int .i64 m, .slice A ps.length c, .int .i64 b, .int .i64 t] 31)) := (Below.refl _ _).alloc (Nat.le_refl _) _
  have K1 := Blk.new w 31 #[.int .i64 o, .int .i64 l, .int .i64 m, .slice A ps.length c, .int .i64 b, .int .i64 t]
  have CW := hide (impl_WordOf o l m A c b t x ps (w.alloc (.cells #[.int .i64 o, .int .i64 l, .int .i64 m, .slice A ps.length c, .int .i64 b, .int .i64 t] 31)) (hr.keep B0.size B0) hz)
  have a0 : (w.alloc (.cells #[.int .i64 o, .int .i64 l, .int .i64 m, .slice A ps.length c, .int .i64 b, .int .i64 t] 31)).cell? ⟨w.heap.size, 0, none⟩ = some (.int .i64 o) := K1.cell 0
  have a1 : (w.alloc (.cells #[.int .i64 o, .int .i64 l, .int .i64 m, .slice A ps.length c, .int .i64 b, .int .i64 t] 31)).cell? ⟨w.heap.size, 1, none⟩ = some (.int .i64 l) := K1.cell 1
  have a2 : (w.alloc (.cells #[.int .i64 o, .int .i64 l, .int .i64 m, .slice A ps.length c, .int .i64 b, .int .i64 t] 31)).cell? ⟨w.heap.size, 2, none⟩ = some (.int .i64 m) := K1.cell 2
  have a3 : (w.alloc (.cells #[.int .i64 o, .int .i64 l, .int .i64 m, .slice A ps.length c, .int .i64 b, .int .i64 t] 31)).cell? ⟨w.heap.size, 3, none⟩ = some (.slice A ps.length c) := K1.cell 3
  have a4 : (w.alloc (.cells #[.int .i64 o, .int .i64 l, .int .i64 m, .slice A ps.length c, .int .i64 b, .int .i64 t] 31)).cell? ⟨w.heap.size, 4, none⟩ = some (.int .i64 b) := K1.cell 4
  have a5 : (w.alloc (.cells #[.int .i64 o, .int .i64 l, .int .i64 m, .slice A ps.length c, .int .i64 b, .int .i64 t] 31)).cell? ⟨w.heap.size, 5, none⟩ = some (.int .i64 t) := K1.cell 5
  go_enter Try.func33, Try.ntmps33
  go_wp2_with fail
  refine (unhide CW).mono ?_; rintro e w1 ⟨rfl, hb⟩
  have B1 := below_next (Nat.le_refl _) B0 hb
  clear a0 a1 a2 a3 a4 a5
  go_wp2_with fail
  go_ret
  exact ⟨rfl, B1⟩

end Go.Proofs.Ytegfcpdkehgdpaa

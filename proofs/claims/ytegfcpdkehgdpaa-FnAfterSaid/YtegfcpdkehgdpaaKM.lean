/- The walks of toKnown and eqKnown. Conditions: the pairs' cells lie below the call's own memory. -/
import Derived.Test.YtegfcpdkehgdpaaKL
namespace Go.Proofs.Ytegfcpdkehgdpaa
open Go.RowKit

theorem blk_new3 (w : World) (o p : Obj) (t : TypeId) (cs : Array Value) : Blk (((w.alloc o).alloc p).alloc (.cells cs t)) (w.heap.size + 2) t cs := by
  have := Blk.new ((w.alloc o).alloc p) t cs
  rwa [World.size_alloc, World.size_alloc] at this
theorem blk6_set {w : World} {g : Nat} {ty : TypeId} {a0 a1 a2 a3 a4 a5 : Value} (h : Blk w g ty #[a0, a1, a2, a3, a4, a5]) (x0 x1 x2 x3 x4 x5 : Value) :
    Blk ((((((w.setCell ⟨g, 0, none⟩ x0).setCell ⟨g, 1, none⟩ x1).setCell ⟨g, 2, none⟩ x2).setCell ⟨g, 3, none⟩ x3).setCell ⟨g, 4, none⟩ x4).setCell ⟨g, 5, none⟩ x5) g ty #[x0, x1, x2, x3, x4, x5] :=
  (((((h.set_ 0 x0).set_ 1 x1).set_ 2 x2).set_ 3 x3).set_ 4 x4).set_ 5 x5
theorem Blk.far1 {w : World} {g b i : Nat} {t : TypeId} {cs : Array Value} (h : Blk w g t cs) (hg : g ≠ b) (u : Value) : Blk (w.setCell ⟨b, i, none⟩ u) g t cs := h.far (p := ⟨b, i, none⟩) hg u
theorem belowSet {w W : World} {B b i : Nat} (h : Below B w W) (hB : B ≤ b) (u : Value) : Below B w (W.setCell ⟨b, i, none⟩ u) := h.setCell (p := ⟨b, i, none⟩) hB u
theorem size_set (w : World) (p : Addr) (u : Value) : (w.setCell p u).heap.size = w.heap.size := by simp [World.setCell]
theorem toPairS_any (A : Option Addr) (c : Nat) (ps : List (Int × Int)) (w : World) (hr : PR w w.heap.size A ps) (hz : ps.length ≤ 1048576) :
    Calls Try.prog 61 #[.slice A ps.length c] w fun e w' => ∃ g, e = .returned (.slice (some ⟨g, 0, none⟩) ps.length ps.length) ∧ w.heap.size ≤ g ∧ Blk w' g 63 (pcells ps) ∧ Below w.heap.size w w' :=
  (laws_toPairS A c ps w hr hz).mono fun _ _ ⟨h1, h2, h3⟩ => ⟨_, h1, Nat.le_refl _, h2, h3⟩

set_option maxRecDepth 100000 in
set_option maxHeartbeats 2000000 in
theorem laws_toKnown (o l m : Int) (A : Option Addr) (c : Nat) (b t : Int) (ps : List (Int × Int)) (w : World) (hr : PR w w.heap.size A ps) (hz : ps.length ≤ 1048576) :
    Calls Try.prog 16 #[kv o l m A ps.length c b t] w fun e w' => ∃ g, e = .returned (kv o l m (some ⟨g, 0, none⟩) ps.length ps.length b t) ∧ w.heap.size ≤ g ∧ Blk w' g 63 (pcells ps) ∧ Below w.heap.size w w' := by
  have B0 : Below w.heap.size w (((w.alloc (.cells #[.int .i64 o, .int .i64 l, .int .i64 m, .slice A ps.length c, .int .i64 b, .int .i64 t] 26)).alloc (.cells #[.int .i64 0, .int .i64 0, .int .i64 0, .slice none 0 0, .int .i64 0, .int .i64 0] 31)).alloc (.cells #[.int .i64 0, .int .i64 0, .int .i64 0, .slice none 0 0, .int .i64 0, .int .i64 0] 31)) := (((Below.refl _ _).alloc (Nat.le_refl _) _).alloc (by simp) _).alloc (by simp; omega) _
  have L0 := ((Blk.new w 26 #[.int .i64 o, .int .i64 l, .int .i64 m, .slice A ps.length c, .int .i64 b, .int .i64 t]).alloc (.cells #[.int .i64 0, .int .i64 0, .int .i64 0, .slice none 0 0, .int .i64 0, .int .i64 0] 31)).alloc (.cells #[.int .i64 0, .int .i64 0, .int .i64 0, .slice none 0 0, .int .i64 0, .int .i64 0] 31)
  have R0 := (blk_new2 w (.cells #[.int .i64 o, .int .i64 l, .int .i64 m, .slice A ps.length c, .int .i64 b, .int .i64 t] 26) 31 #[.int .i64 0, .int .i64 0, .int .i64 0, .slice none 0 0, .int .i64 0, .int .i64 0]).alloc (.cells #[.int .i64 0, .int .i64 0, .int .i64 0, .slice none 0 0, .int .i64 0, .int .i64 0] 31)
  have O0 := blk_new3 w (.cells #[.int .i64 o, .int .i64 l, .int .i64 m, .slice A ps.length c, .int .i64 b, .int .i64 t] 26) (.cells #[.int .i64 0, .int .i64 0, .int .i64 0, .slice none 0 0, .int .i64 0, .int .i64 0] 31) 31 #[.int .i64 0, .int .i64 0, .int .i64 0, .slice none 0 0, .int .i64 0, .int .i64 0]
  go_enter Try.func16, Try.ntmps16
  go_wp2_with fail
  refine (laws_toSetting _ _ _ _).mono ?_; rintro e w1 ⟨rfl, hb1⟩
  have B1 := below_next (Nat.le_refl _) B0 hb1
  have L1 := L0.below hb1 L0.lt
  have R1 := R0.below hb1 R0.lt
  have O1 := O0.below hb1 O0.lt
  have hs1 := O1.lt
  clear B0 L0 R0 O0 hb1
  have a0 : w1.cell? ⟨w.heap.size, 0, none⟩ = some (.int .i64 o) := L1.cell 0
  have a1 : w1.cell? ⟨w.heap.size, 1, none⟩ = some (.int .i64 l) := L1.cell 1
  have a2 : w1.cell? ⟨w.heap.size, 2, none⟩ = some (.int .i64 m) := L1.cell 2
  have a3 : w1.cell? ⟨w.heap.size, 3, none⟩ = some (.slice A ps.length c) := L1.cell 3
  have a4 : w1.cell? ⟨w.heap.size, 4, none⟩ = some (.int .i64 b) := L1.cell 4
  have a5 : w1.cell? ⟨w.heap.size, 5, none⟩ = some (.int .i64 t) := L1.cell 5
  have c0 : w1.cell? ⟨w.heap.size + 2, 0, none⟩ = some (.int .i64 0) := O1.cell 0
  have cf0 := O1.frozen 0
  have c1 : w1.cell? ⟨w.heap.size + 2, 1, none⟩ = some (.int .i64 0) := O1.cell 1
  have cf1 := O1.frozen 1
  have c2 : w1.cell? ⟨w.heap.size + 2, 2, none⟩ = some (.int .i64 0) := O1.cell 2
  have cf2 := O1.frozen 2
  have c3 : w1.cell? ⟨w.heap.size + 2, 3, none⟩ = some (.slice none 0 0) := O1.cell 3
  have cf3 := O1.frozen 3
  have c4 : w1.cell? ⟨w.heap.size + 2, 4, none⟩ = some (.int .i64 0) := O1.cell 4
  have cf4 := O1.frozen 4
  have c5 : w1.cell? ⟨w.heap.size + 2, 5, none⟩ = some (.int .i64 0) := O1.cell 5
  have cf5 := O1.frozen 5
  have BW : Below w.heap.size w (((w1.setCell ⟨w.heap.size + 2, 0, none⟩ (.int .i64 o)).setCell ⟨w.heap.size + 2, 1, none⟩ (.int .i64 l)).setCell ⟨w.heap.size + 2, 2, none⟩ (.int .i64 m)) := belowSet (belowSet (belowSet B1 (by omega) _) (by omega) _) (by omega) _
  have LW : Blk (((w1.setCell ⟨w.heap.size + 2, 0, none⟩ (.int .i64 o)).setCell ⟨w.heap.size + 2, 1, none⟩ (.int .i64 l)).setCell ⟨w.heap.size + 2, 2, none⟩ (.int .i64 m)) w.heap.size 26 #[.int .i64 o, .int .i64 l, .int .i64 m, .slice A ps.length c, .int .i64 b, .int .i64 t] := ((L1.far1 (by omega) _).far1 (by omega) _).far1 (by omega) _
  have RW : Blk (((w1.setCell ⟨w.heap.size + 2, 0, none⟩ (.int .i64 o)).setCell ⟨w.heap.size + 2, 1, none⟩ (.int .i64 l)).setCell ⟨w.heap.size + 2, 2, none⟩ (.int .i64 m)) (w.heap.size + 1) 31 #[.int .i64 0, .int .i64 0, .int .i64 0, .slice none 0 0, .int .i64 0, .int .i64 0] := ((R1.far1 (by omega) _).far1 (by omega) _).far1 (by omega) _
  have OW : Blk (((w1.setCell ⟨w.heap.size + 2, 0, none⟩ (.int .i64 o)).setCell ⟨w.heap.size + 2, 1, none⟩ (.int .i64 l)).setCell ⟨w.heap.size + 2, 2, none⟩ (.int .i64 m)) (w.heap.size + 2) 31 #[.int .i64 o, .int .i64 l, .int .i64 m, .slice none 0 0, .int .i64 0, .int .i64 0] := ((O1.set_ 0 _).set_ 1 _).set_ 2 _
  have CP := hide (toPairS_any A c ps (((w1.setCell ⟨w.heap.size + 2, 0, none⟩ (.int .i64 o)).setCell ⟨w.heap.size + 2, 1, none⟩ (.int .i64 l)).setCell ⟨w.heap.size + 2, 2, none⟩ (.int .i64 m)) (hr.keep (by rw [size_set, size_set, size_set]; omega) BW) hz)
  clear B1 L1 R1 O1
  go_wp2_with fail
  refine (unhide CP).mono ?_; rintro e w3 ⟨g, rfl, hg, hP, hb3⟩
  have hgs : w1.heap.size ≤ g := by rw [size_set, size_set, size_set] at hg; exact hg
  have B3 := below_next (Nat.le_refl _) BW hb3
  have L3 := LW.below hb3 LW.lt
  have R3 := RW.below hb3 RW.lt
  have O3 := OW.below hb3 OW.lt
  clear BW LW RW OW hb3 CP hg a0 a1 a2 a3 a4 a5 c0 cf0 c1 cf1 c2 cf2 c3 cf3 c4 cf4 c5 cf5
  have a0 : w3.cell? ⟨w.heap.size, 0, none⟩ = some (.int .i64 o) := L3.cell 0
  have a1 : w3.cell? ⟨w.heap.size, 1, none⟩ = some (.int .i64 l) := L3.cell 1
  have a2 : w3.cell? ⟨w.heap.size, 2, none⟩ = some (.int .i64 m) := L3.cell 2
  have a3 : w3.cell? ⟨w.heap.size, 3, none⟩ = some (.slice A ps.length c) := L3.cell 3
  have a4 : w3.cell? ⟨w.heap.size, 4, none⟩ = some (.int .i64 b) := L3.cell 4
  have a5 : w3.cell? ⟨w.heap.size, 5, none⟩ = some (.int .i64 t) := L3.cell 5
  have c0 : w3.cell? ⟨w.heap.size + 2, 0, none⟩ = some (.int .i64 o) := O3.cell 0
  have cf0 := O3.frozen 0
  have c1 : w3.cell? ⟨w.heap.size + 2, 1, none⟩ = some (.int .i64 l) := O3.cell 1
  have cf1 := O3.frozen 1
  have c2 : w3.cell? ⟨w.heap.size + 2, 2, none⟩ = some (.int .i64 m) := O3.cell 2
  have cf2 := O3.frozen 2
  have c3 : w3.cell? ⟨w.heap.size + 2, 3, none⟩ = some (.slice none 0 0) := O3.cell 3
  have cf3 := O3.frozen 3
  have c4 : w3.cell? ⟨w.heap.size + 2, 4, none⟩ = some (.int .i64 0) := O3.cell 4
  have cf4 := O3.frozen 4
  have c5 : w3.cell? ⟨w.heap.size + 2, 5, none⟩ = some (.int .i64 0) := O3.cell 5
  have cf5 := O3.frozen 5
  have d0 : w3.cell? ⟨w.heap.size + 1, 0, none⟩ = some (.int .i64 0) := R3.cell 0
  have df0 := R3.frozen 0
  have d1 : w3.cell? ⟨w.heap.size + 1, 1, none⟩ = some (.int .i64 0) := R3.cell 1
  have df1 := R3.frozen 1
  have d2 : w3.cell? ⟨w.heap.size + 1, 2, none⟩ = some (.int .i64 0) := R3.cell 2
  have df2 := R3.frozen 2
  have d3 : w3.cell? ⟨w.heap.size + 1, 3, none⟩ = some (.slice none 0 0) := R3.cell 3
  have df3 := R3.frozen 3
  have d4 : w3.cell? ⟨w.heap.size + 1, 4, none⟩ = some (.int .i64 0) := R3.cell 4
  have df4 := R3.frozen 4
  have d5 : w3.cell? ⟨w.heap.size + 1, 5, none⟩ = some (.int .i64 0) := R3.cell 5
  have df5 := R3.frozen 5
  go_wp2_with fail
  have q := blk6_set (((R3.far1 (b := w.heap.size + 2) (i := 3) (by omega) (.slice (some ⟨g, 0, none⟩) ps.length ps.length)).far1 (b := w.heap.size + 2) (i := 4) (by omega) (.int .i64 b)).far1 (b := w.heap.size + 2) (i := 5) (by omega) (.int .i64 t)) (.int .i64 o) (.int .i64 l) (.int .i64 m) (.slice (some ⟨g, 0, none⟩) ps.length ps.length) (.int .i64 b) (.int .i64 t)
  have q0 := q.cell 0
  have q1 := q.cell 1
  have q2 := q.cell 2
  have q3 := q.cell 3
  have q4 := q.cell 4
  have q5 := q.cell 5
  exact bodyPost_ret (v := kv o l m (some ⟨g, 0, none⟩) ps.length ps.length b t) (by simp [results, Try.results16, go_sem, q0, q1, q2, q3, q4, q5]) rfl
    ⟨g, rfl, by omega, ((((((((hP.far1 (by omega) _).far1 (by omega) _).far1 (by omega) _).far1 (by omega) _).far1 (by omega) _).far1 (by omega) _).far1 (by omega) _).far1 (by omega) _).far1 (by omega) _,
      belowSet (belowSet (belowSet (belowSet (belowSet (belowSet (belowSet (belowSet (belowSet B3 (by omega) _) (by omega) _) (by omega) _) (by omega) _) (by omega) _) (by omega) _) (by omega) _) (by omega) _) (by omega) _⟩

set_option maxRecDepth 100000 in
set_option maxHeartbeats 2000000 in
theorem laws_eqPairS (A A' : Option Addr) (c c' : Nat) (ps : List (Int × Int)) (w : World) (hr : PR w w.heap.size A ps) (hr' : PR w w.heap.size A' ps) (hz : ps.length ≤ 1048576) :
    Calls Try.prog 67 #[.slice A ps.length c, .slice A' ps.length c'] w fun e w' => e = .returned (.bool true) ∧ Below w.heap.size w w' := by
  go_enter Try.func67, Try.ntmps67
  go_wp2_with fail
  go_loopw [5] (fun i wr => ∃ k : Nat, k ≤ ps.length ∧ i = .int .i64 k ∧ Below w.heap.size w wr) (fun i _ => ps.length - (intOf i).toNat)
  case atStart => exact ⟨0, Nat.zero_le _, rfl, Below.refl _ _⟩
  case round =>
    obtain ⟨k, hk, rfl, hbw⟩ := hrel
    by_cases hlt : k < ps.length
    · obtain ⟨pg, po, rfl, hpg, hpc⟩ := hr (by omega)
      obtain ⟨qg, qo, rfl, hqg, hqc⟩ := hr' (by omega)
      obtain ⟨px, hpx⟩ : ∃ x, x = (ps[k]).1 := ⟨_, rfl⟩
      obtain ⟨py, hpy⟩ : ∃ x, x = (ps[k]).2 := ⟨_, rfl⟩
      have hx := hpc k hlt
      have hy := hqc k hlt
      rw [← hpx, ← hpy] at hx hy
      have s0 : Below w.heap.size w wr.drew ∧ wr.drew.cell? ⟨pg, po + k * 2, none⟩ = some (.int .i64 px) ∧ wr.drew.cell? ⟨pg, po + k * 2 + 1, none⟩ = some (.int .i64 py) ∧ wr.drew.cell? ⟨qg, qo + k * 2, none⟩ = some (.int .i64 px) ∧ wr.drew.cell? ⟨qg, qo + k * 2 + 1, none⟩ = some (.int .i64 py) :=
        ⟨hbw.drew, (hbw.cell (p := ⟨pg, po + k * 2, none⟩) hpg).trans hx.1, (hbw.cell (p := ⟨pg, po + k * 2 + 1, none⟩) hpg).trans hx.2, (hbw.cell (p := ⟨qg, qo + k * 2, none⟩) hqg).trans hy.1, (hbw.cell (p := ⟨qg, qo + k * 2 + 1, none⟩) hqg).trans hy.2⟩
      have i0 : (0 : Int) ≤ (k : Int) := Int.natCast_nonneg _
      have i1 : (k : Int) < (ps.length : Int) := by omega
      have CE := hide (fun wx => laws_eqPair px py wx)
      clear hpx hpy hx hy hpc hqc hpg hqg hbw
      go_wp2_with fail
      refine wp_region_held_drew (S := (fun W => Below w.heap.size w W ∧ W.cell? ⟨pg, po + k * 2, none⟩ = some (.int .i64 px) ∧ W.cell? ⟨pg, po + k * 2 + 1, none⟩ = some (.int .i64 py) ∧ W.cell? ⟨qg, qo + k * 2, none⟩ = some (.int .i64 px) ∧ W.cell? ⟨qg, qo + k * 2 + 1, none⟩ = some (.int .i64 py))) (by kernel_rfl) (by first | assumption | exact s0 | exact keep4 (by assumption) (by assumption)) (fun hHeld => ?_)
      refine wpAnyH_take (i := 0) (oi := { dst := some 17, op := Op.move (Operand.tmp 0), type := 29, pos := "exact.go:186", after := #[], guard := none }) (v := ?_) rfl (by kernel_rfl) (by kernel_rfl) (by kernel_rfl) (fun _ _ _ h => h) (Or.inl ⟨by rfl, ?_⟩) (by assumption) ?_; rotate_left
      · intro W hW; (try dsimp only at hW); go_simp;  try (with_reducible rfl)
      try simp only [Act.put, List.setIfInBounds_toArray, List.set_cons_zero, List.set_cons_succ]
      refine wpAnyH_take (i := 1) (oi := { dst := some 18, op := Op.move (Operand.tmp 5), type := 3, pos := "exact.go:186", after := #[], guard := none }) (v := ?_) rfl (by kernel_rfl) (by kernel_rfl) (by kernel_rfl) (fun _ _ _ h => h) (Or.inl ⟨by rfl, ?_⟩) (by assumption) ?_; rotate_left
      · intro W hW; (try dsimp only at hW); go_simp;  try (with_reducible rfl)
      try simp only [Act.put, List.setIfInBounds_toArray, List.set_cons_zero, List.set_cons_succ]
      refine wpAnyH_take (i := 2) (oi := { dst := some 19, op := Op.indexAddr 29 (Operand.tmp 17) (Operand.tmp 18), type := 0, pos := "exact.go:186", after := #[{ on := 0, ground := Ground.data }, { on := 1, ground := Ground.data }], guard := none }) (v := ?_) rfl (by kernel_rfl) (by kernel_rfl) (by kernel_rfl) (fun _ _ _ h => h) (Or.inl ⟨by rfl, ?_⟩) (by assumption) ?_; rotate_left
      · intro W hW; (try dsimp only at hW); go_simp;  try (with_reducible rfl)
      try simp only [Act.put, List.setIfInBounds_toArray, List.set_cons_zero, List.set_cons_succ]
      refine wpAnyH_take (i := 3) (oi := { dst := some 20, op := Op.load 63 (Operand.tmp 19), type := 63, pos := "exact.go:186", after := #[{ on := 2, ground := Ground.data }], guard := none }) (v := ?_) rfl (by kernel_rfl) (by kernel_rfl) (by kernel_rfl) (fun _ _ _ h => h) (Or.inl ⟨by rfl, ?_⟩) (by assumption) ?_; rotate_left
      · intro W hW; (try dsimp only at hW); go_simp;  try (with_reducible rfl)
      try simp only [Act.put, List.setIfInBounds_toArray, List.set_cons_zero, List.set_cons_succ]
      refine wpAnyH_take (i := 4) (oi := { dst := some 21, op := Op.move (Operand.tmp 1), type := 29, pos := "exact.go:186", after := #[], guard := none }) (v := ?_) rfl (by kernel_rfl) (by kernel_rfl) (by kernel_rfl) (fun _ _ _ h => h) (Or.inl ⟨by rfl, ?_⟩) (by assumption) ?_; rotate_left
      · intro W hW; (try dsimp only at hW); go_simp;  try (with_reducible rfl)
      try simp only [Act.put, List.setIfInBounds_toArray, List.set_cons_zero, List.set_cons_succ]
      refine wpAnyH_take (i := 5) (oi := { dst := some 22, op := Op.move (Operand.tmp 5), type := 3, pos := "exact.go:186", after := #[], guard := none }) (v := ?_) rfl (by kernel_rfl) (by kernel_rfl) (by kernel_rfl) (fun _ _ _ h => h) (Or.inl ⟨by rfl, ?_⟩) (by assumption) ?_; rotate_left
      · intro W hW; (try dsimp only at hW); go_simp;  try (with_reducible rfl)
      try simp only [Act.put, List.setIfInBounds_toArray, List.set_cons_zero, List.set_cons_succ]
      refine wpAnyH_take (i := 6) (oi := { dst := some 23, op := Op.indexAddr 29 (Operand.tmp 21) (Operand.tmp 22), type := 0, pos := "exact.go:186", after := #[{ on := 4, ground := Ground.data }, { on := 5, ground := Ground.data }], guard := none }) (v := ?_) rfl (by kernel_rfl) (by kernel_rfl) (by kernel_rfl) (fun _ _ _ h => h) (Or.inl ⟨by rfl, ?_⟩) (by assumption) ?_; rotate_left
      · intro W hW; (try dsimp only at hW); go_simp;  try (with_reducible rfl)
      try simp only [Act.put, List.setIfInBounds_toArray, List.set_cons_zero, List.set_cons_succ]
      refine wpAnyH_take (i := 7) (oi := { dst := some 24, op := Op.load 63 (Operand.tmp 23), type := 63, pos := "exact.go:186", after := #[{ on := 6, ground := Ground.data }], guard := none }) (v := ?_) rfl (by kernel_rfl) (by kernel_rfl) (by kernel_rfl) (fun _ _ _ h => h) (Or.inl ⟨by rfl, ?_⟩) (by assumption) ?_; rotate_left
      · intro W hW; (try dsimp only at hW); go_simp;  try (with_reducible rfl)
      try simp only [Act.put, List.setIfInBounds_toArray, List.set_cons_zero, List.set_cons_succ]
      refine wpAnyH_ready (rs := [8]) (by kernel_rfl) (by simp) (AllReadyH.cons (i := 8) (o := { dst := some 25, op := Op.call { callee := Callee.value (Operand.func 104), args := #[Operand.tmp 20, Operand.tmp 24], argTypes := #[63, 63] }, type := 4, pos := "exact.go:186", after := #[{ on := 3, ground := Ground.data }, { on := 7, ground := Ground.data }], guard := none }) rfl (fun K hK => ?_) AllReadyH.nil)
      go_simp
      refine ((unhide CE) _).mono ?_; rintro e w' ⟨rfl, hb⟩
      try go_wp2_with fail
      refine hK.out _ _ (by (try dsimp only); first | assumption | exact s0 | exact keep4 (by assumption) (by assumption)) (fun hHeld => ?_)
      clear hK K
      try simp only [Act.put, List.setIfInBounds_toArray, List.set_cons_zero, List.set_cons_succ]
      refine wpAnyH_take (i := 9) (oi := { dst := some 26, op := Op.unOp UnOp.not 4 (Operand.tmp 25), type := 4, pos := "exact.go:186", after := #[{ on := 8, ground := Ground.data }], guard := none }) (v := ?_) rfl (by kernel_rfl) (by kernel_rfl) (by kernel_rfl) (fun _ _ _ h => h) (Or.inl ⟨by rfl, ?_⟩) (by assumption) ?_; rotate_left
      · intro W hW; (try dsimp only at hW); go_simp;  try (with_reducible rfl)
      try simp only [Act.put, List.setIfInBounds_toArray, List.set_cons_zero, List.set_cons_succ]
      refine wpAnyH_done (by kernel_rfl) ?_ _
      go_wp2_with fail
      go_roundw
      case rel => exact ⟨k + 1, by omega, by go_num, hHeld.1⟩
      case measure => simp [intOf]; omega
    · obtain rfl : k = ps.length := by omega
      go_wp2_with fail
      go_ret
      exact ⟨rfl, hbw⟩

set_option maxRecDepth 100000 in
set_option maxHeartbeats 2000000 in
theorem laws_eqKnown (o l m : Int) (A A' : Option Addr) (c c' : Nat) (b t : Int) (ps : List (Int × Int)) (w : World) (hr : PR w w.heap.size A ps) (hr' : PR w w.heap.size A' ps) (hz : ps.length ≤ 1048576) :
    Calls Try.prog 18 #[kv o l m A ps.length c b t, kv o l m A' ps.length c' b t] w fun e w' => e = .returned (.bool true) ∧ Below w.heap.size w w' := by
  have B0 : Below w.heap.size w ((w.alloc (.cells #[.int .i64 o, .int .i64 l, .int .i64 m, .slice A ps.length c, .int .i64 b, .int .i64 t] 31)).alloc (.cells #[.int .i64 o, .int .i64 l, .int .i64 m, .slice A' ps.length c', .int .i64 b, .int .i64 t] 31)) := ((Below.refl _ _).alloc (Nat.le_refl _) _).alloc (by simp) _
  have X0 := (Blk.new w 31 #[.int .i64 o, .int .i64 l, .int .i64 m, .slice A ps.length c, .int .i64 b, .int .i64 t]).alloc (.cells #[.int .i64 o, .int .i64 l, .int .i64 m, .slice A' ps.length c', .int .i64 b, .int .i64 t] 31)
  have Y0 := blk_new2 w (.cells #[.int .i64 o, .int .i64 l, .int .i64 m, .slice A ps.length c, .int .i64 b, .int .i64 t] 31) 31 #[.int .i64 o, .int .i64 l, .int .i64 m, .slice A' ps.length c', .int .i64 b, .int .i64 t]
  go_enter Try.func18, Try.ntmps18
  go_wp2_with fail
  refine (laws_eqSetting _ _ _ _).mono ?_; rintro e w1 ⟨rfl, hb1⟩
  have B1 := below_next (Nat.le_refl _) B0 hb1
  have X1 := X0.below hb1 X0.lt
  have Y1 := Y0.below hb1 Y0.lt
  clear B0 X0 Y0 hb1
  have a0 : w1.cell? ⟨w.heap.size, 0, none⟩ = some (.int .i64 o) := X1.cell 0
  have a1 : w1.cell? ⟨w.heap.size, 1, none⟩ = some (.int .i64 l) := X1.cell 1
  have a2 : w1.cell? ⟨w.heap.size, 2, none⟩ = some (.int .i64 m) := X1.cell 2
  have a3 : w1.cell? ⟨w.heap.size, 3, none⟩ = some (.slice A ps.length c) := X1.cell 3
  have a4 : w1.cell? ⟨w.heap.size, 4, none⟩ = some (.int .i64 b) := X1.cell 4
  have a5 : w1.cell? ⟨w.heap.size, 5, none⟩ = some (.int .i64 t) := X1.cell 5
  have c0 : w1.cell? ⟨w.heap.size + 1, 0, none⟩ = some (.int .i64 o) := Y1.cell 0
  have c1 : w1.cell? ⟨w.heap.size + 1, 1, none⟩ = some (.int .i64 l) := Y1.cell 1
  have c2 : w1.cell? ⟨w.heap.size + 1, 2, none⟩ = some (.int .i64 m) := Y1.cell 2
  have c3 : w1.cell? ⟨w.heap.size + 1, 3, none⟩ = some (.slice A' ps.length c') := Y1.cell 3
  have c4 : w1.cell? ⟨w.heap.size + 1, 4, none⟩ = some (.int .i64 b) := Y1.cell 4
  have c5 : w1.cell? ⟨w.heap.size + 1, 5, none⟩ = some (.int .i64 t) := Y1.cell 5
  have CP := hide (laws_eqPairS A A' c c' ps w1 (hr.keep B1.size B1) (hr'.keep B1.size B1) hz)
  go_wp2_with fail
  refine (unhide CP).mono ?_; rintro e w2 ⟨rfl, hb2⟩
  have B2 := below_next (Nat.le_refl _) B1 hb2
  have X2 := X1.below hb2 X1.lt
  have Y2 := Y1.below hb2 Y1.lt
  clear CP X1 Y1 hb2 B1 a0 c0 a1 c1 a2 c2 a3 c3 a4 c4 a5 c5
  have a0 : w2.cell? ⟨w.heap.size, 0, none⟩ = some (.int .i64 o) := X2.cell 0
  have a1 : w2.cell? ⟨w.heap.size, 1, none⟩ = some (.int .i64 l) := X2.cell 1
  have a2 : w2.cell? ⟨w.heap.size, 2, none⟩ = some (.int .i64 m) := X2.cell 2
  have a3 : w2.cell? ⟨w.heap.size, 3, none⟩ = some (.slice A ps.length c) := X2.cell 3
  have a4 : w2.cell? ⟨w.heap.size, 4, none⟩ = some (.int .i64 b) := X2.cell 4
  have a5 : w2.cell? ⟨w.heap.size, 5, none⟩ = some (.int .i64 t) := X2.cell 5
  have c0 : w2.cell? ⟨w.heap.size + 1, 0, none⟩ = some (.int .i64 o) := Y2.cell 0
  have c1 : w2.cell? ⟨w.heap.size + 1, 1, none⟩ = some (.int .i64 l) := Y2.cell 1
  have c2 : w2.cell? ⟨w.heap.size + 1, 2, none⟩ = some (.int .i64 m) := Y2.cell 2
  have c3 : w2.cell? ⟨w.heap.size + 1, 3, none⟩ = some (.slice A' ps.length c') := Y2.cell 3
  have c4 : w2.cell? ⟨w.heap.size + 1, 4, none⟩ = some (.int .i64 b) := Y2.cell 4
  have c5 : w2.cell? ⟨w.heap.size + 1, 5, none⟩ = some (.int .i64 t) := Y2.cell 5
  go_wp2_with fail
  go_ret
  exact ⟨rfl, B2⟩
end Go.Proofs.Ytegfcpdkehgdpaa
